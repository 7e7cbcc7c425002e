/- Part 9 of the texts behind the proof: TwBr9, TwC14, TwV22, TwV12, TwV13, TwM3, TwM4, TwM5, TwV10, TwV11, TwV9, TwV7, TwV8, TwP13, TwP14, TwP15, TwP16, TwP17, TwM6, TwM7, TwM8, TwP18, TwM9, TwM12, TwM13, TwM14, TwM15, TwM16, TwV17, TwM18, TwM17, TwP28a, TwP33, TwO15, TwR13. -/
import Derived.Test.YtnhgfmegaoibeaaDoorG08
import Derived.Test.YtnhgfmegaoibeaaDoorProg
import Derived.SevenTiedAt
set_option linter.unusedSimpArgs false
set_option linter.unusedVariables false
set_option maxRecDepth 100000
set_option linter.unusedVariables false
namespace Go.Proofs.Tw
open Go Go.GX Go.Proofs Go.ChangeShapes Go.WideShapes Go.ChangeAt Go.RowKit
open Go.Proofs.YtnhgfmegaoibeaaDoor
section
variable {H : Type} {enc : TypeId × Value → H} {W : World} {base b0 : Nat} {spare : Nat → Bool} {held : Bool} {v : Value} {d : DataW H} {p : List MemPlace}
theorem argR {K : Kd} {t : TypeId} (hf : fitK Tryd.prog K (.ty t) = true) {cs : List Value} (h : ∃ fuel x, DataW.trod enc Tryd.prog W base spare held fuel t cs = some x) :
    ∃ x : K.T, (K.sem Tryd.prog).cells (fun _ => False) W x cs ∧ K.rng x := by
  obtain ⟨fuel, d, h⟩ := h
  exact fit_rng K (.ty t) cs hf ⟨fuel, d, h⟩ (fun _ _ h => by cases h)
theorem arg_aggR {K : Kd} {t : TypeId} {fs : Array Field} (hu : Tryd.prog.underlying t = some (.struct fs)) (hf : fitK Tryd.prog (.agg K) (.ty t) = true) (hv : Value.okWide Tryd.prog W .any b0 t v) (h : DataW.Trod enc Tryd.prog W base spare held t v d p) :
    ∃ x : K.T, ((Kd.agg K).sem Tryd.prog).val (fun _ => False) W x v ∧ K.rng x := by
  obtain ⟨cs, rfl, _⟩ := okWide_struct hu hv
  obtain ⟨fuel, h⟩ := h
  obtain ⟨x, hx, hr⟩ := argR (K := .agg K) hf ⟨fuel, _, h⟩
  exact ⟨x, ⟨cs.toList, by simp, hx⟩, hr⟩
theorem arg_intR {k : IntKind} {t : TypeId} (hu : Tryd.prog.underlying t = some (.int k)) (hf : fitK Tryd.prog (.int k) (.ty t) = true) (hv : Value.okWide Tryd.prog W .any b0 t v) (h : DataW.Trod enc Tryd.prog W base spare held t v d p) :
    ∃ x : Int, ((Kd.int k).sem Tryd.prog).val (fun _ => False) W x v ∧ (Lit.int k x).wf = true := by
  obtain ⟨n, rfl⟩ := okWide_int hu hv
  obtain ⟨fuel, h⟩ := h
  obtain ⟨x, ⟨v', he, hr⟩, hg⟩ := argR (K := .int k) hf ⟨fuel, _, h⟩
  have he : [Value.int k n] = [v'] := he
  cases he
  exact ⟨x, hr.2, hg⟩
end
theorem byte_wf {x : Int} (h : (Lit.int .u8 x).wf = true) : byteB x := by
  have h1 : IntKind.u8.min = 0 := rfl
  have h2 : IntKind.u8.max = 255 := rfl
  simp only [Lit.wf, h1, h2, Bool.and_eq_true, decide_eq_true_eq] at h
  exact h
theorem gd_rng {x : Gauged} (h : Kd.rng (.pair kA4 (.pair kA2 (.sl 67 kA4))) x) : GdOK x := by
  obtain ⟨⟨h1, h2, h3, h4⟩, ⟨h5, h6⟩, h7⟩ := h
  refine ⟨⟨byte_wf h1, byte_wf h2, byte_wf h3, byte_wf h4⟩, ⟨byte_wf h5, byte_wf h6⟩, fun v hv => ?_⟩
  obtain ⟨k1, k2, k3, k4⟩ := h7 v hv
  exact ⟨byte_wf k1, byte_wf k2, byte_wf k3, byte_wf k4⟩
theorem u71 : ∃ fs, Tryd.prog.underlying 71 = some (.struct fs) := ⟨_, rfl⟩
theorem fit71 : fitK Tryd.prog kGd (.ty 71) = true := by kernel_rfl
theorem u5 : Tryd.prog.underlying 5 = some (.int .u8) := by kernel_rfl
theorem fit5 : fitK Tryd.prog kU8 (.ty 5) = true := by kernel_rfl

theorem lawBB {f : FuncId} {ct : Ct} (hA : ct = ⟨arg2 kGd kU8, .unit, .bool, fun a _ Q => (GdOK a.1 ∧ byteB a.2.1) ∧ Q true, false, false⟩) (ok : CallsOK Tryd.prog (assoc glT) f ct) {H : Type} {enc : TypeId × Value → H} {W : World} {base b0 b1 : Nat} {spare : Nat → Bool} {held : Bool} {v0 v1 : Value} {d0 d1 : DataW H} {p0 p1 : List MemPlace}
    (hl : laidMetH Tryd.prog [("panache/twin.anything", Rows.laid_panache_twin_anything)] W) (o0 : Value.okWide Tryd.prog W .any b0 71 v0) (h0 : DataW.Trod enc Tryd.prog W base spare held 71 v0 d0 p0) (o1 : Value.okWide Tryd.prog W .any b1 5 v1) (h1 : DataW.Trod enc Tryd.prog W base spare held 5 v1 d1 p1) :
    Calls Tryd.prog f #[v0, v1] W fun e W' => e = .returned (.bool true) ∧ Below W.heap.size W W' := by
  subst hA
  obtain ⟨fs, hu⟩ := u71
  obtain ⟨x, hx, hr⟩ := arg_aggR hu fit71 o0 h0
  obtain ⟨y, hy, hs⟩ := arg_intR u5 fit5 o1 h1
  have := ok.calls (fun _ => False) W (x, y, ()) () [v0, v1] [] (fun _ h => h.elim) (laid_glb hl) ⟨v0, [v1], rfl, hx, v1, [], rfl, hy, rfl⟩ rfl (fun r => r = true) ⟨⟨gd_rng hr, byte_wf hs⟩, rfl⟩
  refine this.mono fun e W' h => ?_
  obtain ⟨r, v, he, hv, hb, hr⟩ := h
  have hv : v = .bool r := hv
  subst hr
  exact ⟨by rw [he, hv], hb⟩
end Go.Proofs.Tw
namespace Go.Proofs.Tw
open Go Go.GX Go.Proofs
def f13_wp : Gauged × Int × Unit → Unit → (Bool → Prop) → Prop := fun a _ Q => (GdOK a.1 ∧ byteB a.2.1) ∧ Q true
def f13_ct : Ct := ⟨arg2 kGd kU8, .unit, .bool, f13_wp, false, false⟩
def f13_an : Nat → Items
  | 0 => [.t 17 kI, .row 15 5001 false 54 kSpss]
  | 2 => [.t 20 kI]
  | 4 => [.t 25 kI, .t 22 kI]
  | 6 => [.t 27 kI, .t 26 kI]
  | 1000007 => [.t 102 .bool]
  | 1000014 => [.t 133 .bool]
  | 1000015 => [.t 152 .bool]
  | 1000018 => [.t 172 .bool]
  | 1000024 => [.t 187 .bool]
  | 1000043 => [.t 294 .bool]
  | 2000003 => [.cell 0 71 kGd]
  | 2000028 => [.cell 2601 62 kSlip]
  | _ => []
end Go.Proofs.Tw
set_option linter.unusedVariables false
set_option maxRecDepth 100000
namespace Go.Proofs.Tw
open Go Go.GX Go.Proofs

def V13 (x : (Int × Int × Int × Int) × (Int × Int) × List (Int × Int × Int × Int)) (bb : Int) (Q : Bool → Prop) : Prop := f45_wp ((Prod.fst (Prod.fst x), Prod.fst (Prod.snd (Prod.fst x)), Prod.fst (Prod.snd (Prod.snd (Prod.fst x))), Prod.snd (Prod.snd (Prod.snd (Prod.fst x)))), (Prod.fst (Prod.fst (Prod.snd x)), Prod.snd (Prod.fst (Prod.snd x))), Prod.snd (Prod.snd x)) () fun (r : List Int × List Int × List (Int × Int)) ↦ List.length (Prod.snd (Prod.snd x)) ≤ (9223372036854775807 : Nat) → ∃ (I : (Int × Int × Int × Int) × (Int × Int) × List (Int × Int × Int × Int) → Prop), cnd (decide ((↑(List.length (Prod.snd (Prod.snd x))) : Int) > (4 : Int))) ((0 : Int) ≤ (0 : Int) ∧ (0 : Int) ≤ (4 : Int) ∧ (4 : Int) ≤ (↑(List.length (Prod.snd (Prod.snd x))) : Int) ∧ I ((Prod.fst (Prod.fst x), Prod.fst (Prod.snd (Prod.fst x)), Prod.fst (Prod.snd (Prod.snd (Prod.fst x))), Prod.snd (Prod.snd (Prod.snd (Prod.fst x)))), (Prod.fst (Prod.fst (Prod.snd x)), Prod.snd (Prod.fst (Prod.snd x))), List.drop (Int.toNat (0 : Int)) (List.take (Int.toNat (4 : Int)) (Prod.snd (Prod.snd x))))) (I ((Prod.fst (Prod.fst x), Prod.fst (Prod.snd (Prod.fst x)), Prod.fst (Prod.snd (Prod.snd (Prod.fst x))), Prod.snd (Prod.snd (Prod.snd (Prod.fst x)))), (Prod.fst (Prod.fst (Prod.snd x)), Prod.snd (Prod.fst (Prod.snd x))), Prod.snd (Prod.snd x))) ∧ ∀ (x : (Int × Int × Int × Int) × (Int × Int) × List (Int × Int × Int × Int)), I x → f52_wp (((Prod.fst (Prod.fst x), Prod.fst (Prod.snd (Prod.fst x)), Prod.fst (Prod.snd (Prod.snd (Prod.fst x))), Prod.snd (Prod.snd (Prod.snd (Prod.fst x)))), (Prod.fst (Prod.fst (Prod.snd x)), Prod.snd (Prod.fst (Prod.snd x))), Prod.snd (Prod.snd x)), (Prod.fst r, Prod.fst (Prod.snd r), Prod.snd (Prod.snd r)), ()) () fun (r_1 : List (List Int) × List (Int × Int) × List Int × Unit) ↦ f47_wp (Prod.fst r, Prod.fst (Prod.snd r), Prod.snd (Prod.snd r)) () fun (r_2 : List Int × List Int × List (Int × Int)) ↦ f48_wp (List.map (fun (x : List Int) ↦ x) (Prod.fst r_1)) () fun (r_3 : List (List Int)) ↦ f54_wp ((Prod.fst r_2, Prod.fst (Prod.snd r_2), Prod.snd (Prod.snd r_2)), List.map (fun (x : List Int) ↦ x) r_3, ()) () fun (r_4 : Int × List Int × Int × Unit) ↦ f47_wp (Prod.fst r, Prod.fst (Prod.snd r), Prod.snd (Prod.snd r)) () fun (r_5 : List Int × List Int × List (Int × Int)) ↦ f48_wp (List.map (fun (x : List Int) ↦ x) (Prod.fst r_1)) () fun (r_6 : List (List Int)) ↦ f43_wp ((Prod.fst r_5, Prod.fst (Prod.snd r_5), Prod.snd (Prod.snd r_5)), List.map (fun (x : List Int) ↦ x) r_6, ()) () fun (r_7 : (Int × Int) × Int × Int × Unit) ↦ ∃ (I : Bool → Prop), cnd (Prod.fst (Prod.snd (Prod.snd r_4)) != (0 : Int)) (I true) (cnd (Prod.fst (Prod.snd (Prod.snd r_7)) != (0 : Int)) (cnd (Prod.fst (Prod.snd (Prod.snd r_7)) != (7 : Int)) (I true) (cnd (Prod.fst (Prod.snd r_7) != (0 : Int)) (I true) (cnd (!(Prod.fst (Prod.fst r_7) == (0 : Int) && (Prod.snd (Prod.fst r_7) == (0 : Int) && true))) (I true) (cnd (Prod.fst (Prod.snd (Prod.snd r_7)) == (0 : Int)) (List.length (List.map (fun (x : List Int) ↦ x) (Prod.fst r_1)) ≤ (9223372036854775807 : Nat) → f51_wp ((Prod.fst (Prod.fst r_7), Prod.snd (Prod.fst r_7)) :: ([] : List (Int × Int)), (↑(List.length (List.map (fun (x : List Int) ↦ x) (Prod.fst r_1))) : Int), ()) () fun (r : Bool) ↦ cnd (!r) (I true) (cnd (decide (Prod.fst (Prod.snd r_7) < (0 : Int))) (I true) (I (decide (Prod.fst (Prod.snd r_7) ≥ Prod.fst r_4))))) (I false))))) (cnd (Prod.fst (Prod.snd (Prod.snd r_7)) == (0 : Int)) (List.length (List.map (fun (x : List Int) ↦ x) (Prod.fst r_1)) ≤ (9223372036854775807 : Nat) → f51_wp ((Prod.fst (Prod.fst r_7), Prod.snd (Prod.fst r_7)) :: ([] : List (Int × Int)), (↑(List.length (List.map (fun (x : List Int) ↦ x) (Prod.fst r_1))) : Int), ()) () fun (r : Bool) ↦ cnd (!r) (I true) (cnd (decide (Prod.fst (Prod.snd r_7) < (0 : Int))) (I true) (I (decide (Prod.fst (Prod.snd r_7) ≥ Prod.fst r_4))))) (I false))) ∧ ∀ (x : Bool), I x → cnd x (Q false) (List.length (List.map (fun (x : List Int) ↦ x) (Prod.fst r_1)) ≤ (9223372036854775807 : Nat) → f55a_wp ((↑(List.length (List.map (fun (x : List Int) ↦ x) (Prod.fst r_1))) : Int), ([] : List Int), ()) () fun (r_8 : List (List Int)) ↦ ∃ (I : Int → List (List (List (Int × Int))) → Prop), ∃ (μ : Int → List (List (List (Int × Int))) → Nat), I (0 : Int) ([] : List (List (List (Int × Int)))) ∧ ∀ (x : Int) (x_1 : List (List (List (Int × Int)))), I x x_1 → List.length r_8 ≤ (9223372036854775807 : Nat) → cnd (decide (x < (↑(List.length r_8) : Int))) (∃ (r_9 : List Int × List Int × List (Int × Int)), (f47_wp (Prod.fst r, Prod.fst (Prod.snd r), Prod.snd (Prod.snd r)) () fun (r' : List Int × List Int × List (Int × Int)) ↦ r' = r_9) ∧ ∃ (r : List (List Int)), (f48_wp (List.map (fun (x : List Int) ↦ x) (Prod.fst r_1)) () fun (r' : List (List Int)) ↦ r' = r) ∧ (0 : Int) ≤ x ∧ x < (↑(List.length r_8) : Int) ∧ (List.length ([] : List Int) + List.length (List.getD r_8 (Int.toNat x) ([] : List Int))) * (8 : Nat) ≤ (140737488355328 : Nat) ∧ ∃ (r_10 : List (List (Int × Int)) × Int × Unit), (f37_wp ((Prod.fst r_9, Prod.fst (Prod.snd r_9), Prod.snd (Prod.snd r_9)), List.map (fun (x : List Int) ↦ x) r, ([] : List Int) ++ List.getD r_8 (Int.toNat x) ([] : List Int), ()) () fun (r' : List (List (Int × Int)) × Int × Unit) ↦ r' = r_10) ∧ ∃ (I_1 : Bool → Prop), cnd (Prod.fst (Prod.snd r_10) == (6 : Int)) (I_1 true) (I_1 (Prod.fst (Prod.snd r_10) == (9 : Int))) ∧ ∀ (x_2 : Bool), I_1 x_2 → cnd x_2 (I (IntKind.wrap IntKind.i64 (x + (1 : Int))) x_1 ∧ μ (IntKind.wrap IntKind.i64 (x + (1 : Int))) x_1 < μ x x_1) (∃ (I_2 : Bool → Prop), cnd (Prod.fst (Prod.snd r_10) != (0 : Int)) (I_2 true) (List.length (Prod.fst r_10) ≤ (9223372036854775807 : Nat) → List.length (List.map (fun (x : List Int) ↦ x) (Prod.fst r_1)) ≤ (9223372036854775807 : Nat) → cnd ((↑(List.length (Prod.fst r_10)) : Int) != (↑(List.length (List.map (fun (x : List Int) ↦ x) (Prod.fst r_1))) : Int)) (I_2 true) ((0 : Int) ≤ x ∧ x < (↑(List.length r_8) : Int) ∧ f56_wp (List.getD r_8 (Int.toNat x) ([] : List Int)) () fun (r : Int) ↦ f56_wp (Prod.fst (Prod.snd r_4)) () fun (r_11 : Int) ↦ I_2 (decide (r < r_11)))) ∧ ∀ (x_3 : Bool), I_2 x_3 → cnd x_3 (Q false) ((0 : Int) ≤ x ∧ x < (↑(List.length r_8) : Int) ∧ f56_wp (List.getD r_8 (Int.toNat x) ([] : List Int)) () fun (r : Int) ↦ f56_wp (Prod.fst (Prod.snd r_4)) () fun (r_11 : Int) ↦ cnd (decide (r > r_11)) (I (IntKind.wrap IntKind.i64 (x + (1 : Int))) x_1 ∧ μ (IntKind.wrap IntKind.i64 (x + (1 : Int))) x_1 < μ x x_1) (∃ (I_3 : Bool → Prop), (List.length x_1 ≤ (9223372036854775807 : Nat) → cnd ((↑(List.length x_1) : Int) == (0 : Int)) ((0 : Int) ≤ x ∧ x < (↑(List.length r_8) : Int) ∧ f57_wp (List.getD r_8 (Int.toNat x) ([] : List Int), Prod.fst (Prod.snd r_4), ()) () fun (r : Bool) ↦ I_3 !r) (I_3 false)) ∧ ∀ (x_4 : Bool), I_3 x_4 → cnd x_4 (Q false) ((List.length x_1 + List.length (Prod.fst r_10 :: ([] : List (List (List (Int × Int)))))) * (24 : Nat) ≤ (140737488355328 : Nat) ∧ I (IntKind.wrap IntKind.i64 (x + (1 : Int))) (x_1 ++ Prod.fst r_10 :: ([] : List (List (List (Int × Int))))) ∧ μ (IntKind.wrap IntKind.i64 (x + (1 : Int))) (x_1 ++ Prod.fst r_10 :: ([] : List (List (List (Int × Int))))) < μ x x_1))))) (List.length x_1 ≤ (9223372036854775807 : Nat) → cnd ((↑(List.length x_1) : Int) != Prod.fst r_4) (Q false) (∃ (I : Int → Prop), ∃ (μ : Int → Nat), I (0 : Int) ∧ ∀ (x : Int), I x → ∃ (I_1 : Bool → Prop), cnd (decide (x < (2 : Int))) (List.length (List.map (fun (x : List Int) ↦ x) (Prod.fst r_1)) ≤ (9223372036854775807 : Nat) → I_1 (decide ((↑(List.length (List.map (fun (x : List Int) ↦ x) (Prod.fst r_1))) : Int) > (0 : Int)))) (I_1 false) ∧ ∀ (x_2 : Bool), I_1 x_2 → cnd x_2 (∃ (I_2 : Int × Int → Prop), cnd (x == (1 : Int)) ((8 : Int) ≠ (0 : Int) ∧ (2 : Int) ≠ (0 : Int) ∧ (List.length (List.map (fun (x : List Int) ↦ x) (Prod.fst r_1)) ≤ (9223372036854775807 : Nat) → (↑(List.length (List.map (fun (x : List Int) ↦ x) (Prod.fst r_1))) : Int) ≠ (0 : Int) ∧ I_2 (Int.tmod (IntKind.wrap IntKind.i64 (Int.tdiv (IntKind.wrap IntKind.i64 bb) (8 : Int))) (2 : Int), Int.tmod (IntKind.wrap IntKind.i64 bb) (↑(List.length (List.map (fun (x : List Int) ↦ x) (Prod.fst r_1))) : Int)))) (cnd (Prod.fst (Prod.snd (Prod.snd r_7)) != (0 : Int)) (I (IntKind.wrap IntKind.i64 (x + (1 : Int))) ∧ μ (IntKind.wrap IntKind.i64 (x + (1 : Int))) < μ x) (I_2 (Prod.fst (Prod.fst r_7), Prod.snd (Prod.fst r_7)))) ∧ ∀ (x_3 : Int × Int), I_2 x_3 → (0 : Int) ≤ Prod.snd x_3 ∧ Prod.snd x_3 < (↑(List.length (Prod.fst r_1)) : Int) ∧ (0 : Int) ≤ Prod.fst x_3 ∧ Prod.fst x_3 < (↑(List.length (List.getD (Prod.fst r_1) (Int.toNat (Prod.snd x_3)) ([] : List Int))) : Int) ∧ (0 : Int) ≤ Prod.fst x_3 ∧ Prod.fst x_3 < (↑(List.length (Prod.fst r)) : Int) ∧ ∃ (I_3 : Int → Int → Prop), ∃ (μ_1 : Int → Int → Nat), I_3 (IntKind.wrap IntKind.i64 (List.getD (List.getD (Prod.fst r_1) (Int.toNat (Prod.snd x_3)) ([] : List Int)) (Int.toNat (Prod.fst x_3)) (0 : Int) - List.getD (Prod.fst r) (Int.toNat (Prod.fst x_3)) (0 : Int))) (0 : Int) ∧ ∀ (x_4 x_5 : Int), I_3 x_4 x_5 → cnd (decide (x_4 ≤ IntKind.wrap IntKind.i64 (List.getD (List.getD (Prod.fst r_1) (Int.toNat (Prod.snd x_3)) ([] : List Int)) (Int.toNat (Prod.fst x_3)) (0 : Int) + List.getD (Prod.fst r) (Int.toNat (Prod.fst x_3)) (0 : Int)))) (∃ (I : Int → Int → Prop), ∃ (μ : Int → Int → Nat), I (0 : Int) (0 : Int) ∧ ∀ (x x_6 : Int), I x x_6 → List.length x_1 ≤ (9223372036854775807 : Nat) → cnd (decide (x < (↑(List.length x_1) : Int))) ((0 : Int) ≤ x ∧ x < (↑(List.length x_1) : Int) ∧ (0 : Int) ≤ Prod.snd x_3 ∧ Prod.snd x_3 < (↑(List.length (List.getD x_1 (Int.toNat x) ([] : List (List (Int × Int))))) : Int) ∧ cnd ((↑(List.length (List.getD (List.getD x_1 (Int.toNat x) ([] : List (List (Int × Int)))) (Int.toNat (Prod.snd x_3)) ([] : List (Int × Int)))) : Int) != (2 : Int)) (Q false) ((0 : Int) ≤ x ∧ x < (↑(List.length x_1) : Int) ∧ (0 : Int) ≤ Prod.snd x_3 ∧ Prod.snd x_3 < (↑(List.length (List.getD x_1 (Int.toNat x) ([] : List (List (Int × Int))))) : Int) ∧ (0 : Int) ≤ Prod.fst x_3 ∧ Prod.fst x_3 < (↑(List.length (List.getD (List.getD x_1 (Int.toNat x) ([] : List (List (Int × Int)))) (Int.toNat (Prod.snd x_3)) ([] : List (Int × Int)))) : Int) ∧ ∃ (r : Bool), (f49_wp (x_4, (Prod.fst (List.getD (List.getD (List.getD x_1 (Int.toNat x) ([] : List (List (Int × Int)))) (Int.toNat (Prod.snd x_3)) ([] : List (Int × Int))) (Int.toNat (Prod.fst x_3)) ((0 : Int), (0 : Int))), Prod.snd (List.getD (List.getD (List.getD x_1 (Int.toNat x) ([] : List (List (Int × Int)))) (Int.toNat (Prod.snd x_3)) ([] : List (Int × Int))) (Int.toNat (Prod.fst x_3)) ((0 : Int), (0 : Int)))), ()) () fun (r' : Bool) ↦ r' = r) ∧ cnd r (I (IntKind.wrap IntKind.i64 (x + (1 : Int))) (IntKind.wrap IntKind.i64 (x_6 + (1 : Int))) ∧ μ (IntKind.wrap IntKind.i64 (x + (1 : Int))) (IntKind.wrap IntKind.i64 (x_6 + (1 : Int))) < μ x x_6) (I (IntKind.wrap IntKind.i64 (x + (1 : Int))) x_6 ∧ μ (IntKind.wrap IntKind.i64 (x + (1 : Int))) x_6 < μ x x_6))) (I_3 (IntKind.wrap IntKind.i64 (x_4 + (1 : Int))) (mxI x_5 x_6) ∧ μ_1 (IntKind.wrap IntKind.i64 (x_4 + (1 : Int))) (mxI x_5 x_6) < μ_1 x_4 x_5)) (∃ (I_4 : Bool → Prop), cnd (x == (0 : Int)) (cnd (x_5 != Prod.fst (Prod.snd r_7)) (I_4 true) (cnd (x == (1 : Int)) (cnd (Prod.fst (Prod.snd (Prod.snd r_7)) == (0 : Int)) (cnd (decide (x_5 < Prod.fst (Prod.snd r_7))) (I_4 true) (cnd (Prod.fst (Prod.snd (Prod.snd r_7)) != (0 : Int)) (I_4 (decide (x_5 < Prod.fst r_4))) (I_4 false))) (cnd (Prod.fst (Prod.snd (Prod.snd r_7)) != (0 : Int)) (I_4 (decide (x_5 < Prod.fst r_4))) (I_4 false))) (I_4 false))) (cnd (x == (1 : Int)) (cnd (Prod.fst (Prod.snd (Prod.snd r_7)) == (0 : Int)) (cnd (decide (x_5 < Prod.fst (Prod.snd r_7))) (I_4 true) (cnd (Prod.fst (Prod.snd (Prod.snd r_7)) != (0 : Int)) (I_4 (decide (x_5 < Prod.fst r_4))) (I_4 false))) (cnd (Prod.fst (Prod.snd (Prod.snd r_7)) != (0 : Int)) (I_4 (decide (x_5 < Prod.fst r_4))) (I_4 false))) (I_4 false)) ∧ ∀ (x_6 : Bool), I_4 x_6 → cnd x_6 (Q false) (I (IntKind.wrap IntKind.i64 (x + (1 : Int))) ∧ μ (IntKind.wrap IntKind.i64 (x + (1 : Int))) < μ x))) (f18_wp () () fun (r : Bool) ↦ Q r))))
theorem v13 (x : (Int × Int × Int × Int) × (Int × Int) × List (Int × Int × Int × Int)) (bb : Int) (Q : Bool → Prop) : V13 x bb Q = vcFunc (S0 [(45, f45_ct), (52, f52_ct), (47, f47_ct), (48, f48o_ct), (54, f54_ct), (43, f43_ct), (51, f51_ct), (55, f55a_ct), (37, f37_ct), (56, f56_ct), (57, f57_ct), (49, f49_ct), (18, f18_ct)] []) f13_ct.own f13_ct.fresh f13_an Tryd.f13 (bodyOf Tryd.f13) f13_ct.A f13_ct.C f13_ct.R (x, bb, ()) () Q := by kernel_rfl

end Go.Proofs.Tw
set_option linter.unusedVariables false
set_option maxRecDepth 100000
namespace Go.Proofs.Tw
open Go Go.GX Go.Proofs

end Go.Proofs.Tw
set_option linter.unusedVariables false
set_option maxRecDepth 100000
namespace Go.Proofs.Tw
open Go Go.GX Go.Proofs

end Go.Proofs.Tw
set_option linter.unusedVariables false
namespace Go.Proofs.Tw
open Go Go.GX Go.Proofs
theorem chase_stop {l : List Int} {a : Int} {k : Nat} (h : chaseF l k a < 0) : ∀ j, chaseF l (k + j) a = chaseF l k a
  | 0 => rfl
  | j + 1 => by
    show (if 0 ≤ chaseF l (k + j) a then l.getD (chaseF l (k + j) a).toNat 0 else chaseF l (k + j) a) = _
    rw [chase_stop h j, if_neg (by omega)]
theorem hasF_snoc (l : List Int) (a b : Int) : hasF (l ++ [a]) b = (hasF l b || b == a) := by simp [hasF]
theorem hasF_nil (b : Int) : hasF [] b = false := rfl

inductive OrdP (f : Fam) : List Int → Prop
  | nil : OrdP f []
  | snoc {l : List Int} {n : Nat} : OrdP f l → n < f.length → hasF l n = false → (f.getD n 0 = -1 ∨ hasF l (f.getD n 0) = true) → OrdP f (l ++ [(n : Int)])
theorem ordP_step {f : Fam} {l : List Int} (h : OrdP f l) {n : Nat} (hn : n < f.length) : OrdP f (orderStep f l n) := by
  unfold orderStep
  split
  · rename_i hc
    simp only [Bool.and_eq_true, Bool.or_eq_true, Bool.not_eq_true', beq_iff_eq] at hc
    exact .snoc h hn hc.1 hc.2
  · exact h
theorem ordP_fold {f : Fam} : ∀ (ns : List Nat) {l : List Int}, OrdP f l → (∀ n, n ∈ ns → n < f.length) → OrdP f (ns.foldl (orderStep f) l)
  | [], _, h, _ => h
  | n :: ns, l, h, hn => ordP_fold ns (ordP_step h (hn n (List.mem_cons_self ..))) fun m hm => hn m (List.mem_cons_of_mem _ hm)
theorem ordP_N (f : Fam) : ∀ k, OrdP f (orderN f k)
  | 0 => .nil
  | k + 1 => ordP_fold _ (ordP_N f k) fun n hn => List.mem_range.1 hn
theorem countP_or (p : Nat → Bool) (n : Nat) (hp : p n = false) : ∀ N, (List.range N).countP (fun i => p i || decide (i = n)) = (List.range N).countP p + if n < N then 1 else 0
  | 0 => rfl
  | N + 1 => by
    rw [List.range_succ, List.countP_append, List.countP_append, countP_or p n hp N]
    by_cases h : N = n
    · subst h
      simp [hp]
    · by_cases h2 : n < N
      · have e : decide (N = n) = false := decide_eq_false h
        rw [if_pos h2, if_pos (by omega)]
        simp [e]; omega
      · have e : decide (N = n) = false := decide_eq_false h
        rw [if_neg h2, if_neg (by omega)]
        simp [e]
theorem ordP_cnt {f : Fam} {l : List Int} (h : OrdP f l) : ((List.range f.length).countP fun i : Nat => hasF l i) = l.length := by
  induction h with
  | nil => simp [hasF_nil]
  | @snoc l n _ hn hf _ ih =>
    have e : (fun i : Nat => hasF (l ++ [(n : Int)]) i) = fun i : Nat => hasF l i || decide (i = n) := by
      funext i
      rw [hasF_snoc]
      congr 1
      rw [Bool.eq_iff_iff]; simp; omega
    rw [e, countP_or (fun i : Nat => hasF l i) n hf, ih, if_pos hn]; simp
theorem ordP_all {f : Fam} {l : List Int} (h : OrdP f l) : l.length = f.length ↔ ∀ i : Nat, i < f.length → hasF l i = true := by
  rw [← ordP_cnt h]
  have := List.countP_eq_length (p := fun i : Nat => hasF l i) (l := List.range f.length)
  rw [List.length_range] at this
  rw [this]
  exact ⟨fun h i hi => h i (List.mem_range.2 hi), fun h i hi => h i (List.mem_range.1 hi)⟩
theorem chase_shift (f : List Int) (a : Int) : ∀ k, chaseF f (k + 1) a = chaseF f k (if 0 ≤ a then f.getD a.toNat 0 else a)
  | 0 => rfl
  | k + 1 => by
    show (if 0 ≤ chaseF f (k + 1) a then f.getD (chaseF f (k + 1) a).toNat 0 else chaseF f (k + 1) a) = _
    rw [chase_shift f a k]; rfl
theorem chase_neg {f : List Int} {a : Int} (h : a < 0) : ∀ k, chaseF f k a = a
  | 0 => rfl
  | k + 1 => by rw [chase_shift, if_neg (by omega), chase_neg h k]
theorem ordP_chase {f : Fam} {l : List Int} (h : OrdP f l) : ∀ x, hasF l x = true → chaseF f l.length x < 0 ∧ 0 ≤ x ∧ x < f.length := by
  induction h with
  | nil => intro x hx; cases hx
  | @snoc l n hl hn hf hp ih =>
    intro x hx
    rw [hasF_snoc, Bool.or_eq_true] at hx
    have len : (l ++ [(n : Int)]).length = l.length + 1 := by simp
    rw [len]
    rcases hx with hx | hx
    · obtain ⟨h1, h2, h3⟩ := ih x hx
      refine ⟨?_, h2, h3⟩
      rw [chase_stop h1 1]; exact h1
    · have hx : x = n := by simpa using hx
      subst hx
      refine ⟨?_, by omega, by omega⟩
      rw [chase_shift, if_pos (by omega), Int.toNat_natCast]
      rcases hp with hp | hp
      · rw [hp, chase_neg (by omega)]; omega
      · exact (ih _ hp).1
theorem has_step {f : Fam} {l : List Int} {x : Int} (h : hasF l x = true) (n : Nat) : hasF (orderStep f l n) x = true := by
  unfold orderStep
  split
  · rw [hasF_snoc, h]; rfl
  · exact h
theorem has_fold {f : Fam} {x : Int} : ∀ (ns : List Nat) {l : List Int}, hasF l x = true → hasF (ns.foldl (orderStep f) l) x = true
  | [], _, h => h
  | n :: ns, l, h => has_fold ns (has_step h n)
theorem has_new {f : Fam} {i : Nat} : ∀ (ns : List Nat) {l : List Int}, i ∈ ns → (f.getD i 0 = -1 ∨ hasF l (f.getD i 0) = true) → hasF (ns.foldl (orderStep f) l) i = true
  | n :: ns, l, hi, hp => by
    rcases List.mem_cons.1 hi with rfl | hi
    · refine has_fold ns ?_
      unfold orderStep
      split
      · rw [hasF_snoc]; simp
      · rename_i hc
        cases hh : hasF l i
        · refine absurd ?_ hc
          rw [hh]
          simp only [Bool.not_false, Bool.true_and, Bool.or_eq_true, beq_iff_eq]
          exact hp
        · rfl
    · exact has_new ns hi (hp.imp_right fun h => has_step h n)
theorem has_N {f : Fam} (hr : ∀ i, i < f.length → -1 ≤ f.getD i 0 ∧ f.getD i 0 < f.length) : ∀ k (i : Nat), i < f.length → chaseF f k i < 0 → hasF (orderN f k) i = true
  | 0, i, _, h => by have h : (i : Int) < 0 := h; omega
  | k + 1, i, hi, h => by
    rw [chase_shift, if_pos (by omega), Int.toNat_natCast] at h
    have hri := hr i hi
    refine has_new _ (List.mem_range.2 hi) ?_
    by_cases hp : f.getD i 0 < 0
    · exact .inl (by omega)
    · obtain ⟨o, ho⟩ : ∃ o : Nat, f.getD i 0 = o := ⟨(f.getD i 0).toNat, by omega⟩
      rw [ho] at h hri ⊢
      exact .inr (has_N hr k o (by omega) h)
theorem okOrd_iff {f : Fam} (hr : ∀ i, i < f.length → -1 ≤ f.getD i 0 ∧ f.getD i 0 < f.length) : okOrd f = (List.range f.length).all fun i => decide (chaseF f f.length i < 0) := by
  rw [Bool.eq_iff_iff]
  unfold okOrd
  rw [decide_eq_true_eq, List.all_eq_true]
  have ho := ordP_N f f.length
  constructor
  · intro hl i hi
    have hall := (ordP_all ho).1 hl i (List.mem_range.1 hi)
    have := (ordP_chase ho i hall).1
    have e : (orderN f f.length).length = f.length := hl
    rw [e] at this
    exact decide_eq_true this
  · intro hc
    exact (ordP_all ho).2 fun i hi => has_N hr _ i hi (of_decide_eq_true (hc i (List.mem_range.2 hi)))
theorem inB_rng {f : List Int} {n : Nat} (hl : f.length = n) (h : f.all (inB (-1) ((n : Int) - 1)) = true) : ∀ i, i < f.length → -1 ≤ f.getD i 0 ∧ f.getD i 0 < f.length := by
  intro i hi
  have := List.all_eq_true.1 h _ (getD_mem (d := 0) hi)
  unfold inB at this
  simp only [Bool.and_eq_true, decide_eq_true_eq] at this
  omega
theorem fam_of {fs : Fans} {f : Fam} (h : isFamF f fs.length = true) : FamD fs f ∧ FOK fs f ∧ OrdP f (orderF f) ∧ ∀ i : Nat, i < f.length → hasF (orderF f) i = true := by
  unfold isFamF at h
  simp only [Bool.and_eq_true, decide_eq_true_eq] at h
  obtain ⟨⟨hl, hb⟩, ho⟩ := h
  have hr := inB_rng hl hb
  have hP := ordP_N f f.length
  have hoo : (orderF f).length = f.length := by unfold okOrd at ho; exact of_decide_eq_true ho
  refine ⟨⟨hl, fun i hi => ⟨(hr i hi).1, (hr i hi).2, fun e => ?_⟩⟩, ⟨hl, fun x hx => ?_⟩, hP, (ordP_all hP).1 hoo⟩
  · have hc := okOrd_iff hr
    rw [ho] at hc
    have hc := of_decide_eq_true (List.all_eq_true.1 hc.symm i (List.mem_range.2 hi))
    have : ∀ k, chaseF f k i = i := by
      intro k
      induction k with
      | zero => rfl
      | succ k ih => rw [chase_shift, if_pos (by omega), Int.toNat_natCast, e, ih]
    rw [this] at hc; omega
  · obtain ⟨j, hj, rfl⟩ := List.mem_iff_getElem.1 hx
    have := hr j hj
    rwa [getD_lt hj] at this
end Go.Proofs.Tw
set_option linter.unusedVariables false
namespace Go.Proofs.Tw
open Go Go.GX Go.Proofs
def Sol (c : Span) (f : Fam) (x : Nat → Int) : Prop := ∀ i, i < f.length → f.getD i 0 ≠ -1 → c.1 ≤ x i - x (f.getD i 0).toNat ∧ x i - x (f.getD i 0).toNat ≤ c.2
def InS (st : List Span) (x : Nat → Int) : Prop := ∀ i, i < st.length → (st.getD i (0, 0)).1 ≤ x i ∧ x i ≤ (st.getD i (0, 0)).2
theorem getDset4 {α : Type} (l : List α) (i : Nat) (v : α) (j : Nat) (d : α) (hi : i < l.length) : (l.set i v).getD j d = if j = i then v else l.getD j d := by
  rw [List.getD_eq_getElem?_getD, List.getElem?_set]
  by_cases h : i = j
  · subst h; rw [if_pos rfl, if_pos hi, if_pos rfl]; rfl
  · rw [if_neg h, if_neg (fun e => h e.symm), List.getD_eq_getElem?_getD]
theorem bstep_len (c : Span) (f : Fam) (st : List Span) (n : Nat) : (backStep c f st n).length = st.length := by
  unfold backStep; split <;> simp
theorem fstep_len (c : Span) (f : Fam) (st : List Span) (n : Int) : (fwdStep c f st n).length = st.length := by
  unfold fwdStep; split <;> simp
theorem back_get {c : Span} {f : Fam} {st : List Span} {n : Nat} (hr : ∀ i, i < f.length → -1 ≤ f.getD i 0 ∧ f.getD i 0 < f.length) (hs : st.length = f.length) (hn : n < f.length) (j : Nat) :
    (backStep c f st n).getD j (0, 0) = if f.getD n 0 ≠ -1 ∧ j = (f.getD n 0).toNat then meetF (st.getD j (0, 0)) ((st.getD n (0, 0)).1 - c.2, (st.getD n (0, 0)).2 - c.1) else st.getD j (0, 0) := by
  have := hr n hn
  unfold backStep
  split
  · rename_i h
    rw [getDset4 _ _ _ _ _ (by omega)]
    by_cases hj : j = (f.getD n 0).toNat
    · rw [if_pos hj, if_pos ⟨h, hj⟩, hj]
    · rw [if_neg hj, if_neg (fun e => hj e.2)]
  · rename_i h
    rw [if_neg (fun e => h e.1)]
theorem fwd_get {c : Span} {f : Fam} {st : List Span} {n : Nat} (hs : st.length = f.length) (hn : n < f.length) (j : Nat) :
    (fwdStep c f st n).getD j (0, 0) = if f.getD n 0 ≠ -1 ∧ j = n then meetF (st.getD n (0, 0)) ((st.getD (f.getD n 0).toNat (0, 0)).1 + c.1, (st.getD (f.getD n 0).toNat (0, 0)).2 + c.2) else st.getD j (0, 0) := by
  unfold fwdStep
  rw [Int.toNat_natCast]
  split
  · rename_i h
    rw [getDset4 _ _ _ _ _ (by omega)]
    by_cases hj : j = n
    · rw [if_pos hj, if_pos ⟨h, hj⟩]
    · rw [if_neg hj, if_neg (fun e => hj e.2)]
  · rename_i h
    rw [if_neg (fun e => h e.1)]
theorem meet_in {a b : Span} {x : Int} (h1 : a.1 ≤ x ∧ x ≤ a.2) (h2 : b.1 ≤ x ∧ x ≤ b.2) : (meetF a b).1 ≤ x ∧ x ≤ (meetF a b).2 := by
  have h3 := mx_cases a.1 b.1
  have h4 := mn_cases a.2 b.2
  show mxI a.1 b.1 ≤ x ∧ x ≤ mnI a.2 b.2
  omega
section
variable {c : Span} {f : Fam} {x : Nat → Int}
theorem back_in (hr : ∀ i, i < f.length → -1 ≤ f.getD i 0 ∧ f.getD i 0 < f.length) (hx : Sol c f x) {st : List Span} (hs : st.length = f.length) (h : InS st x) {n : Nat} (hn : n < f.length) : InS (backStep c f st n) x := by
  intro i hi
  rw [bstep_len] at hi
  rw [back_get hr hs hn]
  split
  · rename_i hc
    have h1 := h i hi
    have h2 := h n (by omega)
    have h3 := hx n hn hc.1
    rw [← hc.2] at h3
    exact meet_in h1 (by show (st.getD n (0, 0)).1 - c.2 ≤ x i ∧ x i ≤ (st.getD n (0, 0)).2 - c.1; omega)
  · exact h i hi
theorem fwd_in (hr : ∀ i, i < f.length → -1 ≤ f.getD i 0 ∧ f.getD i 0 < f.length) (hx : Sol c f x) {st : List Span} (hs : st.length = f.length) (h : InS st x) {n : Nat} (hn : n < f.length) : InS (fwdStep c f st n) x := by
  intro i hi
  rw [fstep_len] at hi
  rw [fwd_get hs hn]
  split
  · rename_i hc
    have hrn := hr n hn
    have h1 := h n (by omega)
    have h2 := h (f.getD n 0).toNat (by omega)
    have h3 := hx n hn hc.1
    rw [hc.2]
    exact meet_in h1 (by show (st.getD (f.getD n 0).toNat (0, 0)).1 + c.1 ≤ x n ∧ x n ≤ (st.getD (f.getD n 0).toNat (0, 0)).2 + c.2; omega)
  · exact h i hi
theorem backAll_in (hr : ∀ i, i < f.length → -1 ≤ f.getD i 0 ∧ f.getD i 0 < f.length) (hx : Sol c f x) : ∀ (ns : List Int), (∀ y, y ∈ ns → 0 ≤ y ∧ y < f.length) → ∀ st : List Span, st.length = f.length → InS st x →
    ∃ up, backAll c f ns st = some up ∧ InS up x ∧ up.length = f.length
  | [], _, st, hs, h => ⟨st, rfl, h, hs⟩
  | y :: ns, hy, st, hs, h => by
    have hy0 := hy y (List.mem_cons_self ..)
    have h0 := h y.toNat (by omega)
    have ok : okSp (st.getD y.toNat (0, 0)) = true := by unfold okSp; exact decide_eq_true (by omega)
    obtain ⟨up, e, hu⟩ := backAll_in hr hx ns (fun z hz => hy z (List.mem_cons_of_mem _ hz)) (backStep c f st y.toNat) (by rw [bstep_len, hs]) (back_in hr hx hs h (by omega))
    refine ⟨up, ?_, hu⟩
    show (if okSp (st.getD y.toNat (0, 0)) then backAll c f ns (backStep c f st y.toNat) else none) = some up
    rw [if_pos ok, e]
theorem fwdAll_in (hr : ∀ i, i < f.length → -1 ≤ f.getD i 0 ∧ f.getD i 0 < f.length) (hx : Sol c f x) : ∀ (ns : List Int), (∀ y, y ∈ ns → 0 ≤ y ∧ y < f.length) → ∀ st : List Span, st.length = f.length → InS st x →
    InS (ns.foldl (fwdStep c f) st) x ∧ (ns.foldl (fwdStep c f) st).length = f.length
  | [], _, st, hs, h => ⟨h, hs⟩
  | y :: ns, hy, st, hs, h => by
    obtain ⟨n, rfl⟩ : ∃ n : Nat, y = n := ⟨y.toNat, by have := hy y (List.mem_cons_self ..); omega⟩
    have hy0 := hy n (List.mem_cons_self ..)
    exact fwdAll_in hr hx ns (fun z hz => hy z (List.mem_cons_of_mem _ hz)) (fwdStep c f st n) (by rw [fstep_len, hs]) (fwd_in hr hx hs h (by omega))

theorem back_props (hr : ∀ i, i < f.length → -1 ≤ f.getD i 0 ∧ f.getD i 0 < f.length) {l : List Int} (h : OrdP f l) : ∀ st up : List Span, st.length = f.length → backAll c f l.reverse st = some up →
    up.length = f.length ∧ (∀ i : Nat, hasF l i = false → up.getD i (0, 0) = st.getD i (0, 0)) ∧ (∀ i : Nat, (st.getD i (0, 0)).1 ≤ (up.getD i (0, 0)).1 ∧ (up.getD i (0, 0)).2 ≤ (st.getD i (0, 0)).2) ∧
    (∀ i : Nat, hasF l i = true → (up.getD i (0, 0)).1 ≤ (up.getD i (0, 0)).2 ∧ (f.getD i 0 ≠ -1 → (up.getD i (0, 0)).1 - c.2 ≤ (up.getD (f.getD i 0).toNat (0, 0)).1 ∧ (up.getD (f.getD i 0).toNat (0, 0)).2 ≤ (up.getD i (0, 0)).2 - c.1)) := by
  induction h with
  | nil =>
    intro st up hs hb
    obtain rfl := Option.some.inj hb
    exact ⟨hs, fun _ _ => rfl, fun i => ⟨Int.le_refl _, Int.le_refl _⟩, fun i hi => by cases hi⟩
  | @snoc l n hl hn hf hp ih =>
    intro st up hs hb
    rw [List.reverse_append] at hb
    have hb : (if okSp (st.getD ((n : Int).toNat) (0, 0)) then backAll c f l.reverse (backStep c f st (n : Int).toNat) else none) = some up := hb
    rw [Int.toNat_natCast] at hb
    have hrn := hr n hn
    cases hok : okSp (st.getD n (0, 0))
    · rw [hok] at hb; cases hb
    rw [hok, if_pos rfl] at hb
    have hok : (st.getD n (0, 0)).1 ≤ (st.getD n (0, 0)).2 := by unfold okSp at hok; exact of_decide_eq_true hok
    obtain ⟨u1, u2, u3, u4⟩ := ih (backStep c f st n) up (by rw [bstep_len, hs]) hb
    have bg := back_get (c := c) hr hs hn
    have pIn : f.getD n 0 ≠ -1 → hasF l (f.getD n 0) = true := fun h => hp.resolve_left h
    have keep : ∀ i : Nat, hasF l i = false → (backStep c f st n).getD i (0, 0) = st.getD i (0, 0) := by
      intro i hi
      rw [bg i, if_neg]
      rintro ⟨h1, rfl⟩
      have := pIn h1
      rw [show (((f.getD n 0).toNat : Nat) : Int) = f.getD n 0 by omega] at hi
      rw [this] at hi; cases hi
    have un : up.getD n (0, 0) = st.getD n (0, 0) := (u2 n hf).trans (keep n hf)
    refine ⟨u1, fun i hi => ?_, fun i => ?_, fun i hi => ?_⟩
    · rw [hasF_snoc, Bool.or_eq_false_iff] at hi
      exact (u2 i hi.1).trans (keep i hi.1)
    · have h1 := u3 i
      rw [bg i] at h1
      split at h1
      · have h3 := mx_cases (st.getD i (0, 0)).1 ((st.getD n (0, 0)).1 - c.2)
        have h4 := mn_cases (st.getD i (0, 0)).2 ((st.getD n (0, 0)).2 - c.1)
        have h1 : mxI (st.getD i (0, 0)).1 ((st.getD n (0, 0)).1 - c.2) ≤ _ ∧ _ ≤ mnI (st.getD i (0, 0)).2 ((st.getD n (0, 0)).2 - c.1) := h1
        omega
      · exact h1
    · rw [hasF_snoc, Bool.or_eq_true] at hi
      rcases hi with hi | hi
      · exact u4 i hi
      · obtain rfl : i = n := by have : (i : Int) = n := by simpa using hi
                                 omega
        rw [un]
        refine ⟨hok, fun hne => ?_⟩
        have h1 := u3 (f.getD i 0).toNat
        rw [bg, if_pos ⟨hne, rfl⟩] at h1
        have h3 := mx_cases (st.getD (f.getD i 0).toNat (0, 0)).1 ((st.getD i (0, 0)).1 - c.2)
        have h4 := mn_cases (st.getD (f.getD i 0).toNat (0, 0)).2 ((st.getD i (0, 0)).2 - c.1)
        have h1 : mxI (st.getD (f.getD i 0).toNat (0, 0)).1 ((st.getD i (0, 0)).1 - c.2) ≤ _ ∧ _ ≤ mnI (st.getD (f.getD i 0).toNat (0, 0)).2 ((st.getD i (0, 0)).2 - c.1) := h1
        omega
theorem ordP_par {f : Fam} {l : List Int} (h : OrdP f l) : ∀ i : Nat, hasF l i = true → f.getD i 0 ≠ -1 → hasF l (f.getD i 0) = true := by
  induction h with
  | nil => intro i hi; cases hi
  | @snoc l n hl hn hf hp ih =>
    intro i hi h1
    rw [hasF_snoc, Bool.or_eq_true] at hi ⊢
    rcases hi with hi | hi
    · exact .inl (ih i hi h1)
    · obtain rfl : i = n := by have : (i : Int) = n := by simpa using hi
                               omega
      exact .inl (hp.resolve_left h1)

theorem fwd_props {l : List Int} (h : OrdP f l) : ∀ up : List Span, up.length = f.length →
    (l.foldl (fwdStep c f) up).length = f.length ∧ (∀ i : Nat, hasF l i = false → (l.foldl (fwdStep c f) up).getD i (0, 0) = up.getD i (0, 0)) ∧
    (∀ i : Nat, hasF l i = true → (f.getD i 0 = -1 → (l.foldl (fwdStep c f) up).getD i (0, 0) = up.getD i (0, 0)) ∧
      (f.getD i 0 ≠ -1 → (l.foldl (fwdStep c f) up).getD i (0, 0) = meetF (up.getD i (0, 0)) (((l.foldl (fwdStep c f) up).getD (f.getD i 0).toNat (0, 0)).1 + c.1, ((l.foldl (fwdStep c f) up).getD (f.getD i 0).toNat (0, 0)).2 + c.2))) := by
  intro up hu
  induction h with
  | nil => exact ⟨hu, fun _ _ => rfl, fun i hi => by cases hi⟩
  | @snoc l n hl hn hf hp ih =>
    obtain ⟨a1, a2, a3⟩ := ih
    rw [List.foldl_append]
    show (fwdStep c f (l.foldl (fwdStep c f) up) n).length = _ ∧ _
    have fg := fwd_get (c := c) (n := n) a1 hn
    have unm := a2 n hf
    generalize l.foldl (fwdStep c f) up = F at *
    have same : ∀ i : Nat, i ≠ n → (fwdStep c f F n).getD i (0, 0) = F.getD i (0, 0) := fun i hi => by rw [fg i, if_neg (fun e => hi e.2)]
    refine ⟨by rw [fstep_len, a1], fun i hi => ?_, fun i hi => ?_⟩
    · rw [hasF_snoc, Bool.or_eq_false_iff] at hi
      have : i ≠ n := by rintro rfl; simp at hi
      exact (same i this).trans (a2 i hi.1)
    · show (_ → (fwdStep c f F n).getD i (0, 0) = _) ∧ (_ → (fwdStep c f F n).getD i (0, 0) = meetF (up.getD i (0, 0)) (((fwdStep c f F n).getD (f.getD i 0).toNat (0, 0)).1 + c.1, ((fwdStep c f F n).getD (f.getD i 0).toNat (0, 0)).2 + c.2))
      rw [hasF_snoc, Bool.or_eq_true] at hi
      by_cases hin : i = n
      · subst hin
        refine ⟨fun h1 => ?_, fun h1 => ?_⟩
        · rw [fg i, if_neg (fun e => e.1 h1), unm]
        · have hpl := hp.resolve_left h1
          have hrng := ordP_chase hl _ hpl
          have hpn : (f.getD i 0).toNat ≠ i := by
            intro e
            rw [show f.getD i 0 = (i : Int) by omega] at hpl
            rw [hpl] at hf; cases hf
          rw [same _ hpn, fg i, if_pos ⟨h1, rfl⟩, unm]
      · have hil : hasF l i = true := by
          rcases hi with hi | hi
          · exact hi
          · exact absurd (by have : (i : Int) = n := by simpa using hi
                             omega) hin
        obtain ⟨b1, b2⟩ := a3 i hil
        rw [same i hin]
        refine ⟨b1, fun h1 => ?_⟩
        have hne : (f.getD i 0).toNat ≠ n := by
          intro e
          have hc := ordP_par hl i hil h1
          have hrng := ordP_chase hl _ hc
          rw [show f.getD i 0 = (n : Int) by omega] at hc
          rw [hc] at hf; cases hf
        rw [same _ hne]
        exact b2 h1
end
end Go.Proofs.Tw
set_option linter.unusedVariables false
namespace Go.Proofs.Tw
open Go Go.GX Go.Proofs
theorem mem_has {l : List Int} {y : Int} (h : y ∈ l) : hasF l y = true := by
  unfold hasF; rw [List.any_eq_true]; exact ⟨y, h, by simp⟩
theorem startF_len (g : Gauge) (fs : Fans) (m : Nat) (wrong : List Int) (k : Nat) : (startF g fs m wrong k).length = k := by simp [startF]
theorem startF_get (g : Gauge) (fs : Fans) (m : Nat) (wrong : List Int) {k i : Nat} (h : i < k) : (startF g fs m wrong k).getD i (0, 0) = if hasF wrong i then anything else trulyF g fs m i := map_range_getD _ _ _ _ h
section
variable {g : Gauge} {fs : Fans} {f : Fam} {m : Nat} {wrong : List Int} {x : Nat → Int}
theorem truth_sound (hf : isFamF f fs.length = true) (hx : Sol (g.2.2.getD m (0, 0)) f x) (hs : InS (startF g fs m wrong f.length) x) :
    ∃ fin, truthF g fs m f wrong = some fin ∧ InS fin x ∧ fin.length = f.length := by
  obtain ⟨fd, fo, ho, hall⟩ := fam_of hf
  have hr : ∀ i, i < f.length → -1 ≤ f.getD i 0 ∧ f.getD i 0 < f.length := fun i hi => ⟨(fd.rng i hi).1, (fd.rng i hi).2.1⟩
  have hy : ∀ y, y ∈ orderF f → 0 ≤ y ∧ y < f.length := fun y hy => (ordP_chase ho y (mem_has hy)).2
  obtain ⟨up, e, hu, hl⟩ := backAll_in hr hx (orderF f).reverse (fun y h => hy y (List.mem_reverse.1 h)) _ (startF_len ..) hs
  obtain ⟨h1, h2⟩ := fwdAll_in hr hx (orderF f) hy up hl hu
  refine ⟨_, ?_, h1, h2⟩
  unfold truthF
  rw [e]; rfl
theorem truth_complete (hc : (g.2.2.getD m (0, 0)).1 ≤ (g.2.2.getD m (0, 0)).2) (hf : isFamF f fs.length = true) {fin : List Span} (ht : truthF g fs m f wrong = some fin) :
    fin.length = f.length ∧ (Sol (g.2.2.getD m (0, 0)) f fun i => (fin.getD i (0, 0)).2) ∧ (InS (startF g fs m wrong f.length) fun i => (fin.getD i (0, 0)).2) ∧
    (Sol (g.2.2.getD m (0, 0)) f fun i => (fin.getD i (0, 0)).1) ∧ (InS (startF g fs m wrong f.length) fun i => (fin.getD i (0, 0)).1) := by
  obtain ⟨fd, fo, ho, hall⟩ := fam_of hf
  have hr : ∀ i, i < f.length → -1 ≤ f.getD i 0 ∧ f.getD i 0 < f.length := fun i hi => ⟨(fd.rng i hi).1, (fd.rng i hi).2.1⟩
  unfold truthF at ht
  generalize g.2.2.getD m (0, 0) = c at *
  cases hb : backAll c f (orderF f).reverse (startF g fs m wrong f.length) with
  | none => rw [hb] at ht; cases ht
  | some up =>
    rw [hb] at ht
    have ht := Option.some.inj ht
    obtain ⟨u1, u2, u3, u4⟩ := back_props hr ho _ _ (startF_len ..) hb
    obtain ⟨w1, w2, w3⟩ := fwd_props (c := c) ho up u1
    have ht : (orderF f).foldl (fwdStep c f) up = fin := ht
    rw [ht] at w1 w2 w3

    have key : ∀ {l : List Int}, OrdP f l → (∀ i : Nat, hasF l i = true → (up.getD i (0, 0)).1 ≤ (fin.getD i (0, 0)).1 ∧ (fin.getD i (0, 0)).2 ≤ (up.getD i (0, 0)).2 ∧ (up.getD i (0, 0)).1 ≤ (fin.getD i (0, 0)).2 ∧ (fin.getD i (0, 0)).1 ≤ (up.getD i (0, 0)).2) := by
      intro l hl
      induction hl with
      | nil => intro i hi; cases hi
      | @snoc l n hl hn hf' hp ih =>
        intro i hi
        rw [hasF_snoc, Bool.or_eq_true] at hi
        rcases hi with hi | hi
        · exact ih i hi
        · obtain rfl : i = n := by have : (i : Int) = n := by simpa using hi
                                   omega
          obtain ⟨k1, k2⟩ := w3 i (hall i hn)
          obtain ⟨k3, k4⟩ := u4 i (hall i hn)
          by_cases h1 : f.getD i 0 = -1
          · rw [k1 h1]; omega
          · have hpl := hp.resolve_left h1
            have hri := ordP_chase hl _ hpl
            have ihp := ih (f.getD i 0).toNat (by rw [show (((f.getD i 0).toNat : Nat) : Int) = f.getD i 0 by omega]; exact hpl)
            have k4 := k4 h1
            rw [k2 h1]
            have m1 := mx_cases (up.getD i (0, 0)).1 ((fin.getD (f.getD i 0).toNat (0, 0)).1 + c.1)
            have m2 := mn_cases (up.getD i (0, 0)).2 ((fin.getD (f.getD i 0).toNat (0, 0)).2 + c.2)
            show _ ≤ mxI (up.getD i (0, 0)).1 ((fin.getD (f.getD i 0).toNat (0, 0)).1 + c.1) ∧ mnI (up.getD i (0, 0)).2 ((fin.getD (f.getD i 0).toNat (0, 0)).2 + c.2) ≤ _ ∧ _ ≤ mnI (up.getD i (0, 0)).2 ((fin.getD (f.getD i 0).toNat (0, 0)).2 + c.2) ∧ mxI (up.getD i (0, 0)).1 ((fin.getD (f.getD i 0).toNat (0, 0)).1 + c.1) ≤ _
            omega
    have K : ∀ i : Nat, i < f.length → _ := fun i hi => key ho i (hall i hi)
    have par : ∀ i, i < f.length → f.getD i 0 ≠ -1 → (f.getD i 0).toNat < f.length := fun i hi h1 => by have := hr i hi; omega
    have mid : ∀ i, i < f.length → f.getD i 0 ≠ -1 →
        (fin.getD i (0, 0)).1 = mxI (up.getD i (0, 0)).1 ((fin.getD (f.getD i 0).toNat (0, 0)).1 + c.1) ∧ (fin.getD i (0, 0)).2 = mnI (up.getD i (0, 0)).2 ((fin.getD (f.getD i 0).toNat (0, 0)).2 + c.2) := by
      intro i hi h1
      rw [(w3 i (hall i hi)).2 h1]; exact ⟨rfl, rfl⟩
    refine ⟨w1, fun i hi h1 => ?_, fun i hi => ?_, fun i hi h1 => ?_, fun i hi => ?_⟩
    · have a := (mid i hi h1).2
      have b := K _ (par i hi h1)
      have d := (u4 i (hall i hi)).2 h1
      have m2 := mn_cases (up.getD i (0, 0)).2 ((fin.getD (f.getD i 0).toNat (0, 0)).2 + c.2)
      simp only
      omega
    · rw [startF_len] at hi
      have a := K i hi
      have b := u3 i
      simp only
      omega
    · have a := (mid i hi h1).1
      have b := K _ (par i hi h1)
      have d := (u4 i (hall i hi)).2 h1
      have m2 := mx_cases (up.getD i (0, 0)).1 ((fin.getD (f.getD i 0).toNat (0, 0)).1 + c.1)
      simp only
      omega
    · rw [startF_len] at hi
      have a := K i hi
      have b := u3 i
      simp only
      omega
end
def Meas (g : Gauge) (fs : Fans) (m : Nat) (wrong : List Int) (x : Nat → Int) : Prop := ∀ i : Nat, i < fs.length → hasF wrong i = false → (fs.getD i []).getD m 0 - g.1.getD m 0 ≤ x i ∧ x i ≤ (fs.getD i []).getD m 0 + g.1.getD m 0
section
variable {g : Gauge} {fs : Fans} {f : Fam} {m : Nat} {wrong : List Int}
theorem meas_in {x : Nat → Int} (fl : f.length = fs.length) (hm : Meas g fs m wrong x) (hb : ∀ i, i < fs.length → -1048576 ≤ x i ∧ x i ≤ 1048576) : InS (startF g fs m wrong f.length) x := by
  intro i hi
  rw [startF_len] at hi
  rw [startF_get g fs m wrong hi]
  cases hw : hasF wrong i
  · exact hm i (by omega) hw
  · exact hb i (by omega)
theorem in_meas {x : Nat → Int} (fl : f.length = fs.length) (h : InS (startF g fs m wrong f.length) x) : Meas g fs m wrong x := by
  intro i hi hw
  have := h i (by rw [startF_len]; omega)
  rw [startF_get g fs m wrong (by omega), hw] at this
  exact this
end
end Go.Proofs.Tw
set_option linter.unusedVariables false
set_option maxRecDepth 100000
namespace Go.Proofs.Tw
open Go Go.GX Go.Proofs

end Go.Proofs.Tw
set_option linter.unusedVariables false
set_option maxRecDepth 100000
namespace Go.Proofs.Tw
open Go Go.GX Go.Proofs

end Go.Proofs.Tw
set_option linter.unusedVariables false
set_option maxRecDepth 100000
namespace Go.Proofs.Tw
open Go Go.GX Go.Proofs

end Go.Proofs.Tw
set_option linter.unusedVariables false
set_option maxRecDepth 100000
namespace Go.Proofs.Tw
open Go Go.GX Go.Proofs

def V4 (g : List Int × List Int × List (Int × Int)) (fs : List (List Int)) (Q : Bool → Prop) : Prop := f17_wp ((Prod.fst g, Prod.fst (Prod.snd g), Prod.snd (Prod.snd g)), fs, ()) () fun (r : Bool) ↦ cnd r (f18_wp () () fun (r : Bool) ↦ Q r) (f19_wp (Prod.fst g, Prod.fst (Prod.snd g), Prod.snd (Prod.snd g)) () fun (r : List Int × List Int × List (Int × Int)) ↦ f20_wp fs () fun (r_1 : List (List Int)) ↦ f28_wp ((Prod.fst r, Prod.fst (Prod.snd r), Prod.snd (Prod.snd r)), r_1, ()) () fun (r_2 : Bool × Bool × Int × Unit) ↦ f29_wp ((Prod.fst r, Prod.fst (Prod.snd r), Prod.snd (Prod.snd r)), r_1, ()) () fun (r_3 : List Int × Int × Unit) ↦ f23_wp ((Prod.fst g, Prod.fst (Prod.snd g), Prod.snd (Prod.snd g)), fs, ()) () fun (r_4 : Int) ↦ f24_wp ((Prod.fst r, Prod.fst (Prod.snd r), Prod.snd (Prod.snd r)), (Prod.fst g, Prod.fst (Prod.snd g), Prod.snd (Prod.snd g)), ()) () fun (r : Bool) ↦ cnd (!r) (Q false) (f25_wp (r_1, fs, ()) () fun (r : Bool) ↦ cnd (!r) (Q false) (cnd (Prod.fst (Prod.snd (Prod.snd r_2)) != r_4) (Q false) (cnd (Prod.fst (Prod.snd r_3) != r_4) (Q false) (cnd (r_4 != (0 : Int)) (cnd (!Prod.fst r_2) (cnd (!Prod.fst (Prod.snd r_2)) (List.length (Prod.fst r_3) ≤ (9223372036854775807 : Nat) → cnd ((↑(List.length (Prod.fst r_3)) : Int) == (0 : Int)) (f18_wp () () fun (r : Bool) ↦ Q r) (Q false)) (Q false)) (Q false)) (f30_wp ((Prod.fst g, Prod.fst (Prod.snd g), Prod.snd (Prod.snd g)), fs, ()) () fun (r : Bool) ↦ cnd (Prod.fst r_2 == r) (f31_wp ((Prod.fst g, Prod.fst (Prod.snd g), Prod.snd (Prod.snd g)), fs, ([] : List Int), ()) () fun (r : Bool) ↦ cnd (Prod.fst (Prod.snd r_2) == r) (f33_wp ((Prod.fst g, Prod.fst (Prod.snd g), Prod.snd (Prod.snd g)), fs, ()) () fun (r : List Int) ↦ f32_wp (Prod.fst r_3, r, ()) () fun (r : Bool) ↦ cnd r (f18_wp () () fun (r : Bool) ↦ Q r) (Q false)) (Q false)) (Q false)))))))
theorem v4 (g : List Int × List Int × List (Int × Int)) (fs : List (List Int)) (Q : Bool → Prop) : V4 g fs Q = vcFunc (S0 [(17, f17_ct), (18, f18_ct), (19, f19_ct), (20, f20_ct), (28, f28_ct), (29, f29_ct), (23, f23_ct), (24, f24_ct), (25, f25_ct), (30, f30_ct), (31, f31_ct), (33, f33_ct), (32, f32_ct)] []) f4_ct.own f4_ct.fresh no_an Tryd.f4 (bodyOf Tryd.f4) f4_ct.A f4_ct.C f4_ct.R (g, fs, ()) () Q := by kernel_rfl

end Go.Proofs.Tw
set_option linter.unusedVariables false
set_option maxRecDepth 100000
namespace Go.Proofs.Tw
open Go Go.GX Go.Proofs

end Go.Proofs.Tw
set_option linter.unusedVariables false
namespace Go.Proofs.Tw
open Go Go.GX Go.Proofs

end Go.Proofs.Tw
set_option linter.unusedVariables false
namespace Go.Proofs.Tw
open Go Go.GX Go.Proofs
theorem p4 {g : Gauge} {fs : Fans} {Q : Bool → Prop} (h : f4_wp (g, fs, ()) () Q) : V4 g fs Q := by
  have h : Q true := h
  show cnd (largeF g fs) (Q true) _
  refine cnd_iff.2 ⟨fun _ => h, fun hl => ?_⟩
  obtain ⟨l1, l2, l3, l4, l5⟩ := large_no hl
  refine ⟨⟨by simp only; omega, by simp only; omega, by simp only; omega⟩, ⟨by omega, fun f hf => by have := l5 f hf; omega⟩, ?_⟩
  show cnd (!decide (g = g)) _ (cnd (!decide (fs = fs)) _ (cnd ((twinsFn g fs).2.2 != checkF g fs) _ (cnd ((mostFn g fs).2 != checkF g fs) _ (cnd (checkF g fs != 0) (cnd (!(twinsFn g fs).1) (cnd (!(twinsFn g fs).2.1) ((mostFn g fs).1.length ≤ _ → cnd (((mostFn g fs).1.length : Int) == 0) (Q true) _) _) _) _))))
  refine cnd_f (by simp) (cnd_f (by simp) ?_)
  by_cases hc : checkF g fs = 0
  · have v := VB.of hc
    have e1 : twinsFn g fs = (surelyF g fs, twinsF g fs (fun _ => true), 0) := by unfold twinsFn; rw [if_neg (by simp [hc])]
    have e2 : mostFn g fs = (mostF g fs, 0) := by unfold mostFn; rw [if_neg (by simp [hc])]
    rw [e1, e2]
    refine cnd_f (by simp [hc]) (cnd_f (by simp [hc]) (cnd_f (by simp [hc]) ⟨v, ?_⟩))
    show cnd (surelyF g fs == surelyR g fs) _ _
    refine cnd_t (by rw [surely_eq v]; simp) ⟨v, ?_⟩
    show cnd (twinsF g fs (fun _ => true) == twinR g fs []) _ _
    refine cnd_t (by rw [twinR_nil v]; simp) ⟨v, ?_⟩
    show cnd (decide (mostF g fs = mostR g fs)) _ _
    exact cnd_t (by rw [most_eq v]; simp) h
  · have e1 : twinsFn g fs = (false, false, checkF g fs) := by unfold twinsFn; rw [if_pos hc]
    have e2 : mostFn g fs = ([], checkF g fs) := by unfold mostFn; rw [if_pos hc]
    rw [e1, e2]
    exact cnd_f (by simp) (cnd_f (by simp) (cnd_t (by simpa using hc) (cnd_t rfl (cnd_t rfl fun _ => cnd_t rfl h))))
end Go.Proofs.Tw
set_option linter.unusedVariables false
namespace Go.Proofs.Tw
open Go Go.GX Go.Proofs
end Go.Proofs.Tw
set_option linter.unusedVariables false
set_option maxRecDepth 100000
namespace Go.Proofs.Tw
open Go Go.GX Go.Proofs
end Go.Proofs.Tw
set_option linter.unusedVariables false
set_option maxRecDepth 100000
namespace Go.Proofs.Tw
open Go Go.GX Go.Proofs
end Go.Proofs.Tw
set_option linter.unusedVariables false
namespace Go.Proofs.Tw
open Go Go.GX Go.Proofs

section
variable {g : Gauge} {fs : Fans} {f : Fam} {m : Nat} {wrong : List Int} {x : Nat → Int}
end
end Go.Proofs.Tw
set_option linter.unusedVariables false
namespace Go.Proofs.Tw
open Go Go.GX Go.Proofs
def cl (D : DM) (k : Nat) : DM := fun a b => if D a k < farD ∧ D k b < farD then mnI (D a b) (D a k + D k b) else D a b
end Go.Proofs.Tw
set_option linter.unusedVariables false
namespace Go.Proofs.Tw
open Go Go.GX Go.Proofs
section
variable {g : Gauge} {fs : Fans} {f : Fam} {m : Nat} {wrong : List Int}
end
end Go.Proofs.Tw
set_option linter.unusedVariables false
set_option maxRecDepth 100000
namespace Go.Proofs.Tw
open Go Go.GX Go.Proofs
end Go.Proofs.Tw
set_option linter.unusedVariables false
namespace Go.Proofs.Tw
open Go Go.GX Go.Proofs
theorem flat_range {α : Type} (M : Nat) (G : Nat → α) : ∀ N, ((List.range N).flatMap fun j => (List.range M).map fun q => G (j * M + q)) = (List.range (N * M)).map G
  | 0 => by simp
  | N + 1 => by
    rw [List.range_succ, List.flatMap_append, flat_range M G N, Nat.succ_mul, List.range_add, List.map_append, List.map_map]
    simp [Function.comp_def]
theorem dig_lead (n : Nat) : ∀ (k j q : Nat), j < n + 1 → q < (n + 1) ^ k → digF n (k + 1) (j * (n + 1) ^ k + q) = ((j : Int) - 1) :: digF n k q
  | 0, j, q, hj, hq => by
    have : q = 0 := by simpa using hq
    subst this
    show digF n 0 _ ++ [(((j * (n + 1) ^ 0 + 0) % (n + 1) : Nat) : Int) - 1] = _
    rw [Nat.pow_zero, Nat.mul_one, Nat.add_zero, Nat.mod_eq_of_lt hj]; rfl
  | k + 1, j, q, hj, hq => by
    have e1 : (j * (n + 1) ^ (k + 1) + q) / (n + 1) = j * (n + 1) ^ k + q / (n + 1) := by
      rw [Nat.pow_succ, ← Nat.mul_assoc, Nat.add_comm, Nat.add_mul_div_right _ _ (Nat.succ_pos n), Nat.add_comm]
    have e2 : (j * (n + 1) ^ (k + 1) + q) % (n + 1) = q % (n + 1) := by
      rw [Nat.pow_succ, ← Nat.mul_assoc, Nat.add_comm, Nat.add_mul_mod_self_right]
    have hq2 : q / (n + 1) < (n + 1) ^ k := by
      rw [Nat.div_lt_iff_lt_mul (Nat.succ_pos n), ← Nat.pow_succ]; exact hq
    show digF n (k + 1) ((j * (n + 1) ^ (k + 1) + q) / (n + 1)) ++ [(((j * (n + 1) ^ (k + 1) + q) % (n + 1) : Nat) : Int) - 1] = _ :: (digF n k (q / (n + 1)) ++ [((q % (n + 1) : Nat) : Int) - 1])
    rw [e1, e2, dig_lead n k j (q / (n + 1)) hj hq2]; rfl
theorem dig_facts (n : Nat) : ∀ k q, (digF n k q).length = k ∧ (digF n k q).all (inB (-1) ((n : Int) - 1)) = true
  | 0, _ => ⟨rfl, rfl⟩
  | k + 1, q => by
    obtain ⟨h1, h2⟩ := dig_facts n k (q / (n + 1))
    have : q % (n + 1) < n + 1 := Nat.mod_lt _ (Nat.succ_pos n)
    refine ⟨?_, ?_⟩
    · show (digF n k (q / (n + 1)) ++ [((q % (n + 1) : Nat) : Int) - 1]).length = k + 1
      rw [List.length_append, h1]; rfl
    · show (digF n k (q / (n + 1)) ++ [((q % (n + 1) : Nat) : Int) - 1]).all _ = true
      rw [List.all_append, h2]
      simp only [List.all_cons, List.all_nil, Bool.and_true, Bool.true_and]
      unfold inB
      simp only [Bool.and_eq_true, decide_eq_true_eq]
      omega
def fewN (a : Nat) (l : List Fam) : Nat := l.foldl (fun a f => if origF f < a then origF f else a) a
theorem fewN_le : ∀ (l : List Fam) (a : Nat), fewN a l ≤ a ∧ (∀ f, f ∈ l → fewN a l ≤ origF f) ∧ (fewN a l = a ∨ ∃ f, f ∈ l ∧ fewN a l = origF f)
  | [], a => ⟨Nat.le_refl _, fun _ h => (by cases h), .inl rfl⟩
  | f :: l, a => by
    have e : fewN a (f :: l) = fewN (if origF f < a then origF f else a) l := rfl
    rw [e]
    by_cases hc : origF f < a
    · rw [if_pos hc]
      obtain ⟨h1, h2, h3⟩ := fewN_le l (origF f)
      refine ⟨by omega, fun x hx => ?_, ?_⟩
      · rcases List.mem_cons.1 hx with rfl | hx
        · exact h1
        · exact h2 x hx
      · rcases h3 with h3 | ⟨x, hx, h3⟩
        · exact .inr ⟨f, List.mem_cons_self .., h3⟩
        · exact .inr ⟨x, List.mem_cons_of_mem _ hx, h3⟩
    · rw [if_neg hc]
      obtain ⟨h1, h2, h3⟩ := fewN_le l a
      refine ⟨h1, fun x hx => ?_, ?_⟩
      · rcases List.mem_cons.1 hx with rfl | hx
        · omega
        · exact h2 x hx
      · rcases h3 with h3 | ⟨x, hx, h3⟩
        · exact .inl h3
        · exact .inr ⟨x, List.mem_cons_of_mem _ hx, h3⟩
theorem fewN_snoc (l : List Fam) (f : Fam) (a : Nat) : fewN a (l ++ [f]) = if origF f < fewN a l then origF f else fewN a l := by
  unfold fewN; rw [List.foldl_append]; rfl
theorem can_fold (g : Gauge) (fs : Fans) (n : Nat) : ∀ (L P : List Fam), L.foldl (canStep g fs) (fewN n (P.filter (rightF g fs)), (P.filter (rightF g fs)).filter fun f => decide (origF f = fewN n (P.filter (rightF g fs)))) =
    (fewN n ((P ++ L).filter (rightF g fs)), ((P ++ L).filter (rightF g fs)).filter fun f => decide (origF f = fewN n ((P ++ L).filter (rightF g fs))))
  | [], P => by rw [List.append_nil]; rfl
  | f :: L, P => by
    have e : P ++ f :: L = (P ++ [f]) ++ L := by simp
    rw [e, ← can_fold g fs n L (P ++ [f]), List.foldl_cons]
    congr 1
    rw [List.filter_append]
    obtain ⟨b1, b2, b3⟩ := fewN_le (P.filter (rightF g fs)) n
    generalize hR : P.filter (rightF g fs) = R at *
    unfold canStep
    cases hr : rightF g fs f
    · simp [hr]
    · have e1 : [f].filter (rightF g fs) = [f] := by simp [hr]
      rw [e1, fewN_snoc]
      by_cases h1 : fewN n R < origF f
      · rw [if_pos (by simp [h1]), if_neg (by omega), List.filter_append]
        have : [f].filter (fun f => decide (origF f = fewN n R)) = [] := by simp; omega
        rw [this, List.append_nil]
      · rw [if_neg (by simp; omega)]
        by_cases h2 : origF f < fewN n R
        · simp only [if_pos h2]
          rw [List.filter_append]
          have e2 : R.filter (fun x => decide (origF x = origF f)) = [] := by
            rw [List.filter_eq_nil_iff]
            intro x hx
            have := b2 x hx
            simp; omega
          rw [e2]; simp
        · simp only [if_neg h2]
          rw [List.filter_append]
          have : [f].filter (fun x => decide (origF x = fewN n R)) = [f] := by simp; omega
          rw [this]
theorem can_is (g : Gauge) (fs : Fans) : canF g fs = ((famsF fs.length).filter (rightF g fs)).filter fun f => decide (origF f = fewN (fs.length + 1) ((famsF fs.length).filter (rightF g fs))) := by
  have := can_fold g fs (fs.length + 1) (famsF fs.length) []
  unfold canF
  have e : ((famsF fs.length).foldl (canStep g fs) (fs.length + 1, [])) = _ := this
  rw [e]; rfl
end Go.Proofs.Tw
set_option linter.unusedVariables false
set_option maxRecDepth 100000
namespace Go.Proofs.Tw
open Go Go.GX Go.Proofs
theorem getD_app1 {α : Type} {a b : List α} {i : Nat} {d : α} (h : i < a.length) : (a ++ b).getD i d = a.getD i d := by
  rw [List.getD_eq_getElem?_getD, List.getD_eq_getElem?_getD, List.getElem?_append_left h]
theorem getD_app2 {α : Type} {a : List α} {y : α} {i : Nat} {d : α} (h : i = a.length) : (a ++ [y]).getD i d = y := by
  subst h
  rw [List.getD_eq_getElem?_getD, List.getElem?_concat_length]
  rfl

structure CopAt (g : Gauge) (l : Fans) (t : List (Int × Int)) (f : List Int) (i : Nat) : Prop where
  near : ∀ m, m < 2 → at2 (t.getD i (0, 0)) m - g.1.getD m 0 ≤ (l.getD i []).getD m 0 ∧ (l.getD i []).getD m 0 ≤ at2 (t.getD i (0, 0)) m + g.1.getD m 0
  two : (l.getD i []).length = 2
  rng : ∀ m, m < 2 → 900 - 100 * (i : Int) ≤ at2 (t.getD i (0, 0)) m ∧ at2 (t.getD i (0, 0)) m ≤ 2300 + 100 * (i : Int)
  fam : -1 ≤ f.getD i 0 ∧ f.getD i 0 < i
  cop : 0 ≤ f.getD i 0 → ∀ m, m < 2 → (g.2.2.getD m (0, 0)).1 ≤ at2 (t.getD i (0, 0)) m - at2 (t.getD (f.getD i 0).toNat (0, 0)) m ∧ at2 (t.getD i (0, 0)) m - at2 (t.getD (f.getD i 0).toNat (0, 0)) m ≤ (g.2.2.getD m (0, 0)).2
theorem cop_at {x : Gauged} (hx : GdOK x) {g : Gauge} (hg : GgOK g) : ∀ k, k ≤ 5 → k ≤ x.2.2.length → ∀ i, i < k → CopAt g (copS x g k).1 (copS x g k).2.1 (copS x g k).2.2 i
  | 0, _, _, i, hi => absurd hi (Nat.not_lt_zero _)
  | k + 1, h5, hl, i, hi => by
    obtain ⟨n1, n2, n3⟩ := cop_len x g k
    obtain ⟨l1, l2, l3, o0, o1, k0, k1, c0, c1⟩ := hg.facts
    obtain ⟨v, hv⟩ : ∃ v, v = x.2.2.getD k (0, 0, 0, 0) := ⟨_, rfl⟩
    have hby : by4 v := hx.f v (hv ▸ getD_mem (by omega))
    obtain ⟨r, hr⟩ : ∃ r, r = realC x g (copS x g k).2.1 k v := ⟨_, rfl⟩
    have e1 : (copS x g (k + 1)).1 = (copS x g k).1 ++ [shownF g r v] := by rw [hr, hv]; rfl
    have e2 : (copS x g (k + 1)).2.1 = (copS x g k).2.1 ++ [r] := by rw [hr, hv]; rfl
    have e3 : (copS x g (k + 1)).2.2 = (copS x g k).2.2 ++ [ofG k v] := by rw [hv]; rfl
    have ih := cop_at hx hg k (by omega) (by omega)
    rw [e1, e2, e3]
    rcases Nat.lt_succ_iff_lt_or_eq.1 hi with hi | rfl
    · obtain ⟨a1, a2, a3, a4, a5⟩ := ih i hi
      refine ⟨?_, ?_, ?_, ?_, ?_⟩
      · rw [getD_app1 (by omega), getD_app1 (by omega)]; exact a1
      · rw [getD_app1 (by omega)]; exact a2
      · rw [getD_app1 (by omega)]; exact a3
      · rw [getD_app1 (by omega)]; exact a4
      · rw [getD_app1 (a := (copS x g k).2.1) (by omega), getD_app1 (a := (copS x g k).2.2) (by omega)]
        intro h0
        rw [getD_app1 (by omega)]
        exact a5 h0
    · have hof := of_rng hby i
      have g1 : ((copS x g i).1 ++ [shownF g r v]).getD i [] = shownF g r v := getD_app2 n1.symm
      have g2 : ((copS x g i).2.1 ++ [r]).getD i (0, 0) = r := getD_app2 n2.symm
      have g3 : ((copS x g i).2.2 ++ [ofG i v]).getD i 0 = ofG i v := getD_app2 n3.symm
      have hcop : 0 ≤ ofG i v → ∀ m, m < 2 → (g.2.2.getD m (0, 0)).1 ≤ at2 r m - at2 ((copS x g i).2.1.getD (ofG i v).toNat (0, 0)) m ∧ at2 r m - at2 ((copS x g i).2.1.getD (ofG i v).toNat (0, 0)) m ≤ (g.2.2.getD m (0, 0)).2 := by
        intro h0 m hm
        have er : r = _ := hr
        unfold realC at er
        rw [if_pos h0] at er
        obtain ⟨y1, y2, y3, y4⟩ := hby
        rcases (by omega : m = 0 ∨ m = 1) with rfl | rfl
        · have := miss_in (s := g.2.2.getD 0 (0, 0)) (by omega) y2
          rw [er]
          simp only [at2, if_true]
          omega
        · have yb : byteB (v.2.1 / 2 + v.1 / 2) := by unfold byteB at *; omega
          have := miss_in (s := g.2.2.getD 1 (0, 0)) (by omega) yb
          rw [er]
          simp only [at2]
          rw [if_neg (by omega), if_neg (by omega)]
          omega
      refine ⟨fun m hm => by rw [g1, g2]; exact shown_at hg hby hm, by rw [g1]; rfl, fun m hm => ?_, by rw [g3]; exact hof, ?_⟩
      · rw [g2]
        by_cases h0 : 0 ≤ ofG i v
        · have hc := hcop h0 m hm
          have ha := (ih (ofG i v).toNat (by omega)).rng m hm
          have hcc : -100 ≤ (g.2.2.getD m (0, 0)).1 ∧ (g.2.2.getD m (0, 0)).2 ≤ 100 := by
            rcases (by omega : m = 0 ∨ m = 1) with rfl | rfl <;> omega
          omega
        · have er : r = _ := hr
          unfold realC at er
          rw [if_neg h0] at er
          obtain ⟨⟨q1, q2⟩, q3, q4⟩ := hx.p
          rw [er]
          unfold at2
          split <;> simp only <;> omega
      · rw [g3, g2]
        intro h0 m hm
        rw [getD_app1 (by omega)]
        exact hcop h0 m hm
theorem chase_down {f : List Int} (hf : ∀ i, i < f.length → -1 ≤ f.getD i 0 ∧ f.getD i 0 < i) {a : Nat} (ha : a < f.length) : ∀ k, chaseF f k a < 0 ∨ (chaseF f k a ≤ a - k)
  | 0 => .inr (by simp [chaseF])
  | k + 1 => by
    have ih := chase_down hf ha k
    simp only [chaseF]
    split
    · rename_i h
      have := hf (chaseF f k a).toNat (by omega)
      omega
    · rename_i h
      exact .inl (by omega)
theorem fam_down {f : List Int} {n : Nat} (hl : f.length = n) (hf : ∀ i, i < f.length → -1 ≤ f.getD i 0 ∧ f.getD i 0 < i) : isFamF f n = true := by
  unfold isFamF
  simp only [Bool.and_eq_true, decide_eq_true_eq, List.all_eq_true]
  refine ⟨⟨hl, fun y hy => ?_⟩, ?_⟩
  · obtain ⟨i, hi, rfl⟩ := List.mem_iff_getElem.1 hy
    have := hf i hi
    rw [List.getD_eq_getElem?_getD, List.getElem?_eq_getElem hi] at this
    simp only [Option.getD_some] at this
    exact inB_iff.2 ⟨this.1, by omega⟩
  · rw [okOrd_iff fun i hi => ⟨(hf i hi).1, by have := (hf i hi).2; omega⟩, List.all_eq_true]
    intro i hi
    have hi := List.mem_range.1 hi
    rw [decide_eq_true_eq]
    have := chase_down hf hi f.length
    omega
end Go.Proofs.Tw
set_option linter.unusedVariables false
set_option maxRecDepth 100000
namespace Go.Proofs.Tw
open Go Go.GX Go.Proofs

structure Tru (g : Gauge) (fs : Fans) (f : Fam) (m : Nat) (s : List Int) (x : Nat → Int) : Prop where
  sol : Sol (g.2.2.getD m (0, 0)) f x
  meas : Meas g fs m s x
  bd : ∀ i, i < fs.length → -1048576 ≤ x i ∧ x i ≤ 1048576
theorem fam_len {f : List Int} {n : Nat} (h : isFamF f n = true) : f.length = n := by
  unfold isFamF at h
  simp only [Bool.and_eq_true, decide_eq_true_eq] at h
  exact h.1.1
theorem blame_iff {g : Gauge} {fs : Fans} (v : VB g fs) {f : Fam} (hf : isFamF f fs.length = true) {m : Nat} (hm : m < g.1.length) {s : List Int} : blameP g fs f m s = true ↔ ∃ x, Tru g fs f m s x := by
  have fl := fam_len hf
  unfold blameP
  rw [Bool.or_eq_true, decide_eq_true_eq]
  constructor
  · rintro (h | h)
    · exact ⟨fun _ => 0, fun i hi => by omega, fun i hi => by omega, fun i hi => by omega⟩
    · obtain ⟨fin, e⟩ := Option.isSome_iff_exists.1 h
      obtain ⟨l, s1, s2, _⟩ := truth_complete (by have := v.copy_v hm; omega) hf e
      refine ⟨_, s1, in_meas fl s2, fun i hi => ?_⟩
      have := s2 i (by rw [startF_len]; omega)
      rw [startF_get g fs m s (by omega)] at this
      have hb := patF_bounds v hm i hi
      cases hw : hasF s i
      · rw [hw] at this
        simp only [Bool.false_eq_true, if_false] at this
        omega
      · rw [hw] at this
        exact this
  · rintro ⟨x, h1, h2, h3⟩
    obtain ⟨fin, e, _⟩ := truth_sound hf h1 (meas_in fl h2 h3)
    exact .inr (by rw [e]; rfl)
theorem right_iff {g : Gauge} {fs : Fans} {f : Fam} : rightF g fs f = true ↔ ∀ m, m < g.1.length → blameP g fs f m [] = true := by
  unfold rightF
  rw [List.all_eq_true]
  constructor
  · intro h m hm
    have := h m (List.mem_range.2 hm)
    unfold blameP
    cases e : truthF g fs m f []
    · rw [e] at this
      simp at this
      simp [this]
    · simp
  · intro h m hm
    have := h m (List.mem_range.1 hm)
    unfold blameP at this
    cases e : truthF g fs m f []
    · rw [e] at this
      simp at this
      simp [this]
    · simp

end Go.Proofs.Tw
set_option linter.unusedVariables false
set_option maxRecDepth 100000
namespace Go.Proofs.Tw
open Go Go.GX Go.Proofs
theorem wrong_two {g : Gauge} {fs : Fans} (hg : g.1.length = 2) : wrongF g fs = (leastS fs.length (wrongP g fs) 0).map (fun f => ((0 : Int), f)) ++ (leastS fs.length (wrongP g fs) 1).map fun f => ((1 : Int), f) := by
  unfold wrongF
  rw [hg]
  exact blame_two _ _
theorem wrongP_iff {g : Gauge} {fs : Fans} (v : VB g fs) {m : Nat} (hm : m < g.1.length) (s : List Int) : wrongP g fs m s = true ↔ ∀ i k : Nat, i < fs.length → k < fs.length → hasF s i = false → hasF s k = false → (fs.getD i []).getD m 0 - (fs.getD k []).getD m 0 ≤ 2 * g.2.1.getD m 0 + 2 * g.1.getD m 0 := by
  unfold wrongP
  rw [pair_iff v hm]
  simp only [Bool.not_eq_true']
theorem wrong_full {g : Gauge} {fs : Fans} (v : VB g fs) {m : Nat} (hm : m < g.1.length) : wrongP g fs m (numsF (fun _ => true) fs.length) = true := by
  rw [wrongP_iff v hm]
  intro i k hi hk h1 h2
  rw [numsF_has hi] at h1
  cases h1
end Go.Proofs.Tw
set_option linter.unusedVariables false
set_option maxRecDepth 100000
namespace Go.Proofs.Tw
open Go Go.GX Go.Proofs
def cm (y : Int × Int) : Nat := (y.1 / 8 % 2).toNat
end Go.Proofs.Tw
set_option linter.unusedVariables false
set_option maxRecDepth 100000
namespace Go.Proofs.Tw
open Go Go.GX Go.Proofs
structure CopOK (g : Gauge) (l : Fans) (t : List (Int × Int)) (f : List Int) : Prop where
  gg : GgOK g
  vb : VB g l
  tl : t.length = l.length
  fl : f.length = l.length
  fam : isFamF f l.length = true
  at' : ∀ i, i < l.length → CopAt g l t f i
theorem cop_ok {x : Gauged} (hx : GdOK x) : CopOK (gaugeG x.1) (copS x (gaugeG x.1) (copN x)).1 (copS x (gaugeG x.1) (copN x)).2.1 (copS x (gaugeG x.1) (copN x)).2.2 := by
  have hg := gauge_gg hx.g
  obtain ⟨n1, n2, n3⟩ := cop_len x (gaugeG x.1) (copN x)
  have hn : copN x ≤ 5 ∧ copN x ≤ x.2.2.length := by unfold copN; omega
  have ha := cop_at hx hg (copN x) hn.1 hn.2
  refine ⟨hg, ?_, by omega, by omega, ?_, fun i hi => ha i (by omega)⟩
  · refine vb_of hg (by omega) (fun f hf => ?_) (fun f hf y hy => ?_)
    all_goals
      obtain ⟨i, hi, rfl⟩ := List.mem_iff_getElem.1 hf
      have hi' : i < copN x := by omega
      obtain ⟨a1, a2, a3, a4, a5⟩ := ha i hi'
      rw [List.getD_eq_getElem?_getD, List.getElem?_eq_getElem hi] at a2
    · exact a2
    · obtain ⟨m, hm, rfl⟩ := List.mem_iff_getElem.1 hy
      have hm2 : m < 2 := by simp only [Option.getD_some] at a2; omega
      have b1 := a1 m hm2
      have b3 := a3 m hm2
      have ho := gg_off hg hm2
      have e : (((copS x (gaugeG x.1) (copN x)).1.getD i []).getD m 0) = ((copS x (gaugeG x.1) (copN x)).1[i])[m] := by
        simp [List.getD_eq_getElem?_getD, hi, hm]
      rw [e] at b1
      omega
  · rw [n1]
    exact fam_down (n3.trans rfl) fun i hi => (ha i (by omega)).fam

theorem truthFn_eq {g : Gauge} {fs : Fans} (v : VB g fs) {f : List Int} (hf : isFamF f fs.length = true) : truthFn g fs f = if rightF g fs f = true then (truthsF g fs f, 0) else ([], 9) := by
  unfold truthFn
  rw [if_neg (by simp [check0 v]), if_neg (by simp [hf])]
  cases rightF g fs f <;> rfl

structure OneOff (g : Gauge) (l l' : Fans) (f : List Int) (m : Nat) : Prop where
  few : (blameF g.1.length l'.length (blameP g l' f)).length ≤ 1
  one : (blameF g.1.length l'.length (blameP g l' f)).length = 1 → ((blameF g.1.length l'.length (blameP g l' f)).getD 0 (0, 0)).1 = m
  ord : slipsB (blameF g.1.length l'.length (blameP g l' f)) l'.length = true
  right : rightF g l' f = true ↔ (blameF g.1.length l'.length (blameP g l' f)).length = 0
end Go.Proofs.Tw
set_option linter.unusedVariables false
set_option maxRecDepth 100000
namespace Go.Proofs.Tw
open Go Go.GX Go.Proofs

def V55z (n : Int) (s : List Int) (Q : List (List Int) → Prop) : Prop := List.length s ≤ (9223372036854775807 : Nat) → cnd ((↑(List.length s) : Int) == n) (Q (s :: ([] : List (List Int)))) (∃ (I : Int → List (List Int) → Prop), ∃ (μ : Int → List (List Int) → Nat), I (-1 : Int) ([] : List (List Int)) ∧ ∀ (x : Int) (x_1 : List (List Int)), I x x_1 → cnd (decide (x < n)) ((List.length ([] : List Int) + List.length s) * (8 : Nat) ≤ (140737488355328 : Nat) ∧ (List.length (([] : List Int) ++ s) + List.length (x :: ([] : List Int))) * (8 : Nat) ≤ (140737488355328 : Nat) ∧ False) (Q x_1))
theorem V55zE (n : Int) (s : List Int) (Q : List (List Int) → Prop) : V55z n s Q = (vcFunc (S0 [] []) false false f55_an Tryd.f55 (bodyOf Tryd.f55) (arg2 kI kIs) .unit kIss (n, s, ()) () Q) := by kernel_rfl

def V55 (k : Nat) (n : Int) (s : List Int) (Q : List (List Int) → Prop) : Prop := List.length s ≤ (9223372036854775807 : Nat) → cnd ((↑(List.length s) : Int) == n) (Q (s :: ([] : List (List Int)))) (∃ (I : Int → List (List Int) → Prop), ∃ (μ : Int → List (List Int) → Nat), I (-1 : Int) ([] : List (List Int)) ∧ ∀ (x : Int) (x_1 : List (List Int)), I x x_1 → cnd (decide (x < n)) ((List.length ([] : List Int) + List.length s) * (8 : Nat) ≤ (140737488355328 : Nat) ∧ (List.length (([] : List Int) ++ s) + List.length (x :: ([] : List Int))) * (8 : Nat) ≤ (140737488355328 : Nat) ∧ f55_wp k (n, ([] : List Int) ++ s ++ x :: ([] : List Int), ()) () fun (r : List (List Int)) ↦ (List.length x_1 + List.length r) * (24 : Nat) ≤ (140737488355328 : Nat) ∧ I (IntKind.wrap IntKind.i64 (x + (1 : Int))) (x_1 ++ r) ∧ μ (IntKind.wrap IntKind.i64 (x + (1 : Int))) (x_1 ++ r) < μ x x_1) (Q x_1))
theorem V55E (k : Nat) (n : Int) (s : List Int) (Q : List (List Int) → Prop) : V55 k n s Q = (vcFunc (S0 [(55, f55_ct k)] []) false false f55_an Tryd.f55 (bodyOf Tryd.f55) (arg2 kI kIs) .unit kIss (n, s, ()) () Q) := by kernel_rfl

end Go.Proofs.Tw
set_option linter.unusedVariables false
set_option maxRecDepth 100000
namespace Go.Proofs.Tw
open Go Go.GX Go.Proofs
theorem listL_eq (n : Nat) : ∀ k s, listL n k s = (List.range ((n + 1) ^ k)).map fun q => s ++ digF n k q
  | 0, s => by simp [listL, digF]
  | k + 1, s => by
    show ((List.range (n + 1)).flatMap fun (j : Nat) => listL n k (s ++ [(j : Int) - 1])) = _
    have e : ∀ j, j ∈ List.range (n + 1) → listL n k (s ++ [(j : Int) - 1]) = (List.range ((n + 1) ^ k)).map fun q => s ++ digF n (k + 1) (j * (n + 1) ^ k + q) := by
      intro j hj
      rw [listL_eq n k]
      refine List.map_congr_left fun q hq => ?_
      rw [dig_lead n k j q (List.mem_range.1 hj) (List.mem_range.1 hq), List.append_assoc]
      rfl
    rw [flatMap_congr' _ e, flat_range ((n + 1) ^ k) (fun q => s ++ digF n (k + 1) q) (n + 1), Nat.pow_succ, Nat.mul_comm]
theorem pow65' {n k : Nat} (hn : n ≤ 5) (hk : k ≤ 5) : (n + 1) ^ k ≤ 7776 :=
  Nat.le_trans (Nat.pow_le_pow_left (show n + 1 ≤ 6 by omega) k) (Nat.pow_le_pow_right (by omega) hk)
theorem listL_len (n k : Nat) (s : List Int) : (listL n k s).length = (n + 1) ^ k := by rw [listL_eq]; simp
theorem flatL_len (n k : Nat) (s : List Int) : ∀ j, ((List.range j).flatMap fun (j : Nat) => listL n k (s ++ [(j : Int) - 1])).length = j * (n + 1) ^ k
  | 0 => by simp
  | j + 1 => by
    rw [List.range_succ, List.flatMap_append, List.length_append, flatL_len n k s j, Nat.succ_mul]
    simp [listL_len]
theorem p55z {n : Int} {s : List Int} {Q : List (List Int) → Prop} (h : f55_wp 0 (n, s, ()) () Q) : V55z n s Q := by
  obtain ⟨⟨h1, h2, h3⟩, h⟩ := h
  simp only at h1 h2 h3
  have h : Q [s] := h
  refine fun _ => ?_
  rw [show ((s.length : Int) == n) = true by simp [h3]]
  exact h
theorem p55 {k : Nat} {n : Int} {s : List Int} {Q : List (List Int) → Prop} (h : f55_wp (k + 1) (n, s, ()) () Q) : V55 k n s Q := by
  obtain ⟨⟨h1, h2, h3⟩, h⟩ := h
  simp only at h1 h2 h3
  obtain ⟨N, rfl⟩ := Int.eq_ofNat_of_zero_le h1
  have h : Q (listL N (k + 1) s) := h
  have hN : N = s.length + (k + 1) := by omega
  have step : ∀ j, ((List.range (j + 1)).flatMap fun (j : Nat) => listL N k (s ++ [(j : Int) - 1])) = ((List.range j).flatMap fun (j : Nat) => listL N k (s ++ [(j : Int) - 1])) ++ listL N k (s ++ [(j : Int) - 1]) := fun j => by
    rw [List.range_succ, List.flatMap_append]; simp
  refine fun _ => ?_
  rw [show ((s.length : Int) == ((N : Nat) : Int)) = false by simp; omega]
  refine ⟨fun x l => ∃ j : Nat, j ≤ N + 1 ∧ x = (j : Int) - 1 ∧ l = (List.range j).flatMap fun (j : Nat) => listL N k (s ++ [(j : Int) - 1]), fun x _ => (N - x).toNat, ⟨0, by omega, rfl, rfl⟩, ?_⟩
  rintro x l ⟨j, hj, rfl, rfl⟩
  refine cnd_iff.2 ⟨fun hc => ?_, fun hc => ?_⟩
  · have hc : (j : Int) - 1 < N := of_decide_eq_true hc
    have hw : IntKind.wrap .i64 ((j : Int) - 1 + 1) = ((j + 1 : Nat) : Int) - 1 := by rw [wrapS (by omega) (by omega)]; omega
    refine ⟨by simp; omega, by simp; omega, ⟨by simp only; omega, by simp only; omega, by simp; omega⟩, ?_⟩
    simp only [Int.toNat_natCast, List.nil_append]
    have hp := pow65' (show N ≤ 5 by omega) (show k ≤ 5 by omega)
    have hl : j * (N + 1) ^ k ≤ 6 * 7776 := Nat.mul_le_mul (by omega) hp
    refine ⟨?_, ⟨j + 1, by omega, hw, (step j).symm⟩, by rw [hw]; omega⟩
    rw [flatL_len, listL_len]
    omega
  · have hc : ¬ (j : Int) - 1 < N := of_decide_eq_false hc
    have : j = N + 1 := by omega
    subst this
    exact h

def LA (n : Nat) : List Fam := (List.range ((n + 1) ^ n)).map (digF n n)
theorem lists55 {n : Nat} (hn : n ≤ 5) {K : List (List Int) → Prop} (h : ∀ R, R = LA n → K R) : f55a_wp ((n : Int), [], ()) () K := by
  refine ⟨n, ⟨by simp only; omega, by simp only; omega, by simp⟩, h _ ?_⟩
  simp only [Int.toNat_natCast]
  rw [listL_eq]
  rfl
theorem LA_len {n : Nat} (hn : n ≤ 5) : (LA n).length ≤ 7776 := by
  unfold LA
  rw [List.length_map, List.length_range]
  exact pow65' hn hn
theorem LA_fam {n : Nat} {f : Fam} (h : f ∈ LA n) : f.length = n ∧ isFamF f n = okOrd f := by
  obtain ⟨q, _, rfl⟩ := List.mem_map.1 h
  obtain ⟨h1, h2⟩ := dig_facts n n q
  refine ⟨h1, ?_⟩
  unfold isFamF
  rw [h2, decide_eq_true h1, Bool.true_and, Bool.true_and]

def fewO (g : Gauge) (fs : Fans) : Nat := fewN (fs.length + 1) ((famsF fs.length).filter (rightF g fs))
def selF (g : Gauge) (fs : Fans) (f : Fam) : Bool := okOrd f && (rightF g fs f && decide (origF f = fewO g fs))
theorem can_sel (g : Gauge) (fs : Fans) : canF g fs = (LA fs.length).filter (selF g fs) := by
  rw [can_is]
  unfold famsF
  rw [List.filter_filter, List.filter_filter]
  refine List.filter_congr fun f _ => ?_
  unfold selF fewO famsF
  cases okOrd f <;> cases rightF g fs f <;> simp
theorem few_least {g : Gauge} {fs : Fans} {f : Fam} (h : f ∈ LA fs.length) (ho : okOrd f = true) (hr : rightF g fs f = true) : fewO g fs ≤ origF f := by
  have hm : f ∈ (famsF fs.length).filter (rightF g fs) := List.mem_filter.2 ⟨List.mem_filter.2 ⟨h, ho⟩, hr⟩
  exact (fewN_le ((famsF fs.length).filter (rightF g fs)) (fs.length + 1)).2.1 f hm
theorem orig_neg {n : Nat} {f : Fam} (h : isFamF f n = true) : (f.countP fun x => decide (x < 0)) = origF f := by
  unfold origF
  unfold isFamF at h
  simp only [Bool.and_eq_true] at h
  refine List.countP_congr fun x hx => ?_
  have := inB_iff.1 (List.all_eq_true.1 h.1.2 x hx)
  simp only [decide_eq_true_eq, beq_iff_eq]
  omega
theorem first_orig {g : Gauge} {fs : Fans} (v : VB g fs) : isFamF ((canF g fs).getD 0 []) fs.length = true ∧ origF ((canF g fs).getD 0 []) = fewO g fs := by
  have hne := canF_ne v
  have hl : 0 < (canF g fs).length := List.length_pos_iff.2 hne
  have hm := getD_mem (d := ([] : List Int)) hl
  rw [can_sel, List.mem_filter] at hm
  rw [← can_sel] at hm
  unfold selF at hm
  simp only [Bool.and_eq_true, decide_eq_true_eq] at hm
  exact ⟨by rw [(LA_fam hm.1).2]; exact hm.2.1, hm.2.2.2⟩

theorem look_fold {g : Gauge} {fs : Fans} {l : List Fam} {m : Nat} : ∀ (ns : List Nat) (s : Slip × Int), (ns.foldl (lookStep g fs l m) s = s ∨ ∃ n, n ∈ ns ∧ ns.foldl (lookStep g fs l m) s = (((m : Int), (n : Int)), mostAt g fs l m n)) ∧ (ns.foldl (lookStep g fs l m) s).2 ≤ s.2 ∧ (∀ n, n ∈ ns → (ns.foldl (lookStep g fs l m) s).2 ≤ mostAt g fs l m n) ∧ ((ns.foldl (lookStep g fs l m) s).2 = s.2 → ns.foldl (lookStep g fs l m) s = s)
  | [], s => ⟨.inl rfl, Int.le_refl _, fun n hn => (by cases hn), fun _ => rfl⟩
  | n :: ns, s => by
    rw [List.foldl_cons]
    obtain ⟨h1, h2, h3, h4⟩ := look_fold (g := g) (fs := fs) (l := l) (m := m) ns (lookStep g fs l m s n)
    have hs : (lookStep g fs l m s n = s ∧ s.2 ≤ mostAt g fs l m n) ∨ (lookStep g fs l m s n = (((m : Int), (n : Int)), mostAt g fs l m n) ∧ mostAt g fs l m n < s.2) := by
      unfold lookStep
      split
      · rename_i h; exact .inr ⟨rfl, h⟩
      · rename_i h; exact .inl ⟨rfl, by omega⟩
    rcases hs with ⟨e, hle⟩ | ⟨e, hlt⟩
    · rw [e] at h1 h2 h3 h4 ⊢
      refine ⟨h1.imp id fun ⟨k, a, b⟩ => ⟨k, by simp [a], b⟩, h2, fun k hk => ?_, h4⟩
      rcases List.mem_cons.1 hk with rfl | hk
      · omega
      · exact h3 k hk
    · have e2 : (lookStep g fs l m s n).2 = mostAt g fs l m n := by rw [e]
      rw [e2] at h2
      refine ⟨.inr ?_, by omega, fun k hk => ?_, fun h => by omega⟩
      · rcases h1 with h1 | ⟨k, a, b⟩
        · exact ⟨n, by simp, by rw [h1, e]⟩
        · exact ⟨k, by simp [a], b⟩
      · rcases List.mem_cons.1 hk with rfl | hk
        · exact h2
        · exact h3 k hk
theorem look_fold2 {g : Gauge} {fs : Fans} {l : List Fam} : ∀ (ms : List Nat) (s : Slip × Int), (ms.foldl (fun s m => (List.range fs.length).foldl (lookStep g fs l m) s) s = s ∨ ∃ m n, m ∈ ms ∧ n < fs.length ∧ ms.foldl (fun s m => (List.range fs.length).foldl (lookStep g fs l m) s) s = (((m : Int), (n : Int)), mostAt g fs l m n)) ∧
    (ms.foldl (fun s m => (List.range fs.length).foldl (lookStep g fs l m) s) s).2 ≤ s.2 ∧ (∀ m n, m ∈ ms → n < fs.length → (ms.foldl (fun s m => (List.range fs.length).foldl (lookStep g fs l m) s) s).2 ≤ mostAt g fs l m n) ∧ ((ms.foldl (fun s m => (List.range fs.length).foldl (lookStep g fs l m) s) s).2 = s.2 → ms.foldl (fun s m => (List.range fs.length).foldl (lookStep g fs l m) s) s = s)
  | [], s => ⟨.inl rfl, Int.le_refl _, fun m n hm => (by cases hm), fun _ => rfl⟩
  | m :: ms, s => by
    rw [List.foldl_cons]
    obtain ⟨k1, k2, k3, k4⟩ := look_fold (g := g) (fs := fs) (l := l) (m := m) (List.range fs.length) s
    obtain ⟨h1, h2, h3, h4⟩ := look_fold2 (g := g) (fs := fs) (l := l) ms ((List.range fs.length).foldl (lookStep g fs l m) s)
    refine ⟨?_, by omega, fun m' n hm hn => ?_, fun h => ?_⟩
    · rcases h1 with e | ⟨m', n, a, b, e⟩
      · rw [e]
        rcases k1 with e' | ⟨n, a, e'⟩
        · exact .inl e'
        · exact .inr ⟨m, n, by simp, List.mem_range.1 a, e'⟩
      · exact .inr ⟨m', n, by simp [a], b, e⟩
    · rcases List.mem_cons.1 hm with rfl | hm
      · have := k3 n (List.mem_range.2 hn); omega
      · exact h3 m' n hm hn
    · have a := h4 (by omega)
      rw [a]
      exact k4 (by rw [a] at h; exact h)

theorem look_facts (g : Gauge) (fs : Fans) (l : List Fam) : (∀ m n, m < g.1.length → n < fs.length → (lookF g fs l).2 ≤ mostAt g fs l m n) ∧ (lookF g fs l).2 ≤ l.length ∧ ((lookF g fs l).2 ≠ l.length → ∃ m n, m < g.1.length ∧ n < fs.length ∧ lookF g fs l = (((m : Int), (n : Int)), mostAt g fs l m n)) := by
  obtain ⟨h1, h2, h3, h4⟩ := look_fold2 (g := g) (fs := fs) (l := l) (List.range g.1.length) ((0, 0), (l.length : Int))
  refine ⟨fun m n hm hn => h3 m n (List.mem_range.2 hm) hn, h2, fun hne => ?_⟩
  rcases h1 with e | ⟨m, n, a, b, e⟩
  · have : (lookF g fs l).2 = l.length := by unfold lookF; rw [e]
    exact absurd this hne
  · exact ⟨m, n, List.mem_range.1 a, b, e⟩
theorem mostN_nn (says : List (List Span)) (n : Nat) (low : Int) : ∀ k, 0 ≤ mostN says n low k
  | 0 => Int.le_refl _
  | k + 1 => by
    have := mostN_nn says n low k
    have := mx_cases (mostN says n low k) (stillF says n (low + k))
    show 0 ≤ mxI _ _
    omega
end Go.Proofs.Tw
set_option linter.unusedVariables false
set_option maxRecDepth 100000
namespace Go.Proofs.Tw
open Go Go.GX Go.Proofs
structure Better (g g' : Gauge) : Prop where
  gg : GgOK g'
  km : g'.2.1 = g.2.1
  cp : g'.2.2 = g.2.2
  off : ∀ m, m < 2 → 0 ≤ g'.1.getD m 0 ∧ g'.1.getD m 0 ≤ g.1.getD m 0
section
variable {g g' : Gauge} {l : Fans} {f : List Int}
theorem Better.tru (b : Better g g') {m : Nat} (hm : m < 2) {s : List Int} {x : Nat → Int} (h : Tru g' l f m s x) : Tru g l f m s x := by
  refine ⟨by rw [← b.cp]; exact h.sol, fun i hi hw => ?_, h.bd⟩
  have a := h.meas i hi hw
  have c := b.off m hm
  omega
theorem Better.right (b : Better g g') (hg : GgOK g) (v : VB g l) (v' : VB g' l) (hf : isFamF f l.length = true) (h : rightF g' l f = true) : rightF g l f = true := by
  have l1 := hg.facts.1
  have l1' := b.gg.facts.1
  rw [right_iff] at h ⊢
  intro m hm
  obtain ⟨x, tr⟩ := (blame_iff v' hf (by omega)).1 (h m (by omega))
  exact (blame_iff v hf hm).2 ⟨x, b.tru (by omega) tr⟩
theorem Better.wrongP (b : Better g g') (hg : GgOK g) (v : VB g l) (v' : VB g' l) {m : Nat} (hm : m < 2) {s : List Int} (h : Tw.wrongP g' l m s = true) : Tw.wrongP g l m s = true := by
  have l1 := hg.facts.1
  have l1' := b.gg.facts.1
  rw [wrongP_iff v' (by omega)] at h
  rw [wrongP_iff v (by omega)]
  intro i k hi hk h1 h2
  have := h i k hi hk h1 h2
  have c := b.off m hm
  rw [b.km] at this
  omega
theorem least_mono {k : Nat} (hk : k ≤ 5) {p q : Nat → List Int → Bool} {m : Nat} {t : List Int} (ht : t ∈ setsF k) (hq : q m t = true) (h : ∀ s, s ∈ setsF k → q m s = true → p m s = true) : (leastS k p m).length ≤ (leastS k q m).length := by
  have a := least_ok hk ht hq
  have b := h _ (least_mem k q m) a.1
  exact (least_ok hk (least_mem k q m) b).2 _ (least_mem k q m) b
theorem Better.wrong (b : Better g g') (hg : GgOK g) (v : VB g l) (v' : VB g' l) : (wrongF g l).length ≤ (wrongF g' l).length := by
  have l1 := hg.facts.1
  have l1' := b.gg.facts.1
  rw [wrong_two l1, wrong_two l1', List.length_append, List.length_append, List.length_map, List.length_map, List.length_map, List.length_map]
  have key : ∀ m, m < 2 → (leastS l.length (Tw.wrongP g l) m).length ≤ (leastS l.length (Tw.wrongP g' l) m).length := fun m hm => least_mono v.f5 (sets_all v.f5).1 (wrong_full v' (by omega)) fun s hs h => b.wrongP hg v v' hm h
  have := key 0 (by omega)
  have := key 1 (by omega)
  omega
end
theorem truths_len (g : Gauge) (l : Fans) (f : List Int) : (truthsF g l f).length = l.length ∧ ∀ i, i < l.length → ((truthsF g l f).getD i []).length = g.1.length := by
  unfold truthsF
  refine ⟨by simp, fun i hi => ?_⟩
  rw [map_range_getD _ _ _ _ hi]
  simp
end Go.Proofs.Tw
set_option linter.unusedVariables false
set_option maxRecDepth 100000
namespace Go.Proofs.Tw
open Go Go.GX Go.Proofs
structure MadeOK (g : Gauge) (l : Fans) (t : List (Int × Int)) (p : Int × Int) : Prop where
  gg : GgOK g
  vb : VB g l
  tw : twinsF g l (fun _ => true) = true
  tl : t.length = l.length
  fits : ∀ m, m < 2 → Fits g l m (fun _ => true) l.length (at2 p m)
  pr : ∀ m, 200 ≤ at2 p m ∧ at2 p m ≤ 555
  near : ∀ i, i < l.length → ∀ m, m < 2 → at2 (t.getD i (0, 0)) m - g.1.getD m 0 ≤ (l.getD i []).getD m 0 ∧ (l.getD i []).getD m 0 ≤ at2 (t.getD i (0, 0)) m + g.1.getD m 0
theorem cnd_f' {b : Bool} {p q : Prop} (hb : b = false) (h : q) : cnd b p q := by rw [hb]; exact h
theorem cnd_t' {b : Bool} {p q : Prop} (hb : b = true) (h : p) : cnd b p q := by rw [hb]; exact h
end Go.Proofs.Tw
set_option linter.unusedVariables false
set_option maxRecDepth 100000
set_option maxHeartbeats 2000000
namespace Go.Proofs.Tw
open Go Go.GX Go.Proofs
theorem sel_snoc {g : Gauge} {l : Fans} {R : List Fam} {k : Nat} (hk : k < R.length) : ((R.take (k + 1)).filter (selF g l)).map (truthsF g l) = ((R.take k).filter (selF g l)).map (truthsF g l) ++ if selF g l (R.getD k []) then [truthsF g l (R.getD k [])] else [] := by
  rw [List.take_succ_eq_append_getElem hk, List.filter_append, List.map_append, getD_lt hk]
  congr 1
  rw [List.filter_cons]
  by_cases hs : selF g l R[k] = true
  · rw [if_pos hs, if_pos hs]; rfl
  · rw [if_neg hs, if_neg hs]; rfl
theorem p13 {x : Gauged} {bb : Int} {Q : Bool → Prop} (h : f13_wp (x, bb, ()) () Q) : V13 x bb Q := by
  obtain ⟨⟨hx, hb⟩, h⟩ := h
  simp only at hx hb
  unfold V13
  simp only [f45_wp, f52_wp, f47_wp, f48_wp, f54_wp, f43_wp, f51_wp, f37_wp, f56_wp, f57_wp, f49_wp, f18_wp, List.map_id_fun', id, Prod.eta, List.nil_append]
  refine ⟨hx.g, fun _ => ⟨fun y => GdOK y ∧ y.1 = x.1, cnd_iff.2 ⟨fun h1 => ?_, fun _ => ⟨hx, rfl⟩⟩, ?_⟩⟩
  · have h1 := of_decide_eq_true h1
    exact ⟨by omega, by omega, by omega, ⟨hx.g, hx.p, fun v hv => hx.f v (List.mem_of_mem_take (List.mem_of_mem_drop hv))⟩, rfl⟩
  rintro y ⟨hy, hyx⟩
  have ck := cop_ok hy
  rw [hyx] at ck
  refine ⟨⟨hy, ck.gg⟩, ?_⟩
  generalize (copS y (gaugeG x.1) (copN y)).1 = l at *
  generalize (copS y (gaugeG x.1) (copN y)).2.1 = t at *
  generalize (copS y (gaugeG x.1) (copN y)).2.2 = f at *
  generalize gaugeG x.1 = g at *
  obtain ⟨l1, l2, l3, o0, o1, k0, k1, c0, c1⟩ := ck.gg.facts
  have hg := ck.gg
  have v := ck.vb
  have f5 := v.f5
  have lg : g.1.length ≤ 1000000 ∧ g.2.1.length ≤ 1000000 ∧ g.2.2.length ≤ 1000000 := by omega
  have ll : l.length ≤ 1000000 ∧ ∀ f, f ∈ l → f.length ≤ 1000000 := ⟨by omega, fun f hf => by have := v.fl f hf; omega⟩
  have hck := check0 v
  have ef : familiesFn g l = (((canF g l).length : Int), (canF g l).getD 0 [], 0) := by unfold familiesFn; rw [if_neg (by simp [hck])]
  obtain ⟨fst1, fst2⟩ := first_orig v
  have fstl := fam_len fst1
  have hcl := canF_len v
  obtain ⟨lf1, lf2, lf3⟩ := look_facts g l (canF g l)
  obtain ⟨s, left, e, hlk, hprop⟩ : ∃ s left e, lookFn g l = (s, left, e) ∧ ((e = 7 ∧ s = (0, 0) ∧ left = 0 ∧ ∀ m n, m < 2 → n < l.length → ((canF g l).length : Int) ≤ mostAt g l (canF g l) m n) ∨ (e = 0 ∧ left < ((canF g l).length : Int) ∧ 0 ≤ left ∧ ∃ m n : Nat, m < 2 ∧ n < l.length ∧ s = ((m : Int), (n : Int)) ∧ left = mostAt g l (canF g l) m n ∧ ∀ m n, m < 2 → n < l.length → left ≤ mostAt g l (canF g l) m n)) := by
    by_cases he : (lookF g l (canF g l)).2 = ((canF g l).length : Int)
    · refine ⟨(0, 0), 0, 7, by unfold lookFn; rw [if_neg (by simp [hck]), if_pos he], .inl ⟨rfl, rfl, rfl, fun m n hm hn => ?_⟩⟩
      have := lf1 m n (by omega) hn
      omega
    · obtain ⟨m, n, hm, hn, e⟩ := lf3 he
      refine ⟨_, _, 0, by unfold lookFn; rw [if_neg (by simp [hck]), if_neg he], .inr ⟨rfl, by omega, ?_, m, n, by omega, hn, by rw [e], by rw [e], fun m n hm hn => lf1 m n (by omega) hn⟩⟩
      rw [e]
      exact mostN_nn _ _ _ _
  simp only [ef, hlk]
  refine ⟨lg, ll, lg, ll, fun b => b = false, ?_, ?_⟩
  · rcases hprop with ⟨rfl, rfl, rfl, _⟩ | ⟨rfl, h1, h2, m, n, hm, hn, rfl, _, _⟩
    · exact cnd_f' rfl (cnd_t' rfl (cnd_f' rfl (cnd_f' rfl (cnd_f' rfl (cnd_f' rfl rfl)))))
    · refine cnd_f' rfl (cnd_f' rfl (cnd_t' rfl fun _ => cnd_f' ?_ (cnd_f' (decide_eq_false (by omega)) (decide_eq_false (by omega)))))
      have : slipsB [((m : Int), (n : Int))] l.length = true := by
        unfold slipsB
        rw [List.all_eq_true]
        intro i hi
        have hi : i < 1 := List.mem_range.1 hi
        have : i = 0 := by omega
        subst this
        unfold slipOK
        simp only [List.getD_cons_zero, Bool.and_eq_true, Bool.or_eq_true, decide_eq_true_eq]
        exact ⟨by omega, by omega, by omega, by omega, .inl trivial⟩
      rw [this]; rfl
  rintro _ rfl
  refine cnd_f' rfl fun _ => lists55 f5 fun R hR => ?_
  have hRl : R.length ≤ 7776 := hR ▸ LA_len f5
  have cs : (R.filter (selF g l)) = canF g l := by rw [hR]; exact (can_sel g l).symm
  refine forUpL (n := R.length) (fun k => ((R.take k).filter (selF g l)).map (truthsF g l)) rfl (fun k hk I μ hI hw => ?_) ?_
  · have hm : R.getD k [] ∈ LA l.length := hR ▸ getD_mem hk
    obtain ⟨fl, ff⟩ := LA_fam hm
    rw [sel_snoc hk] at hI
    have hlen : (((R.take k).filter (selF g l)).map (truthsF g l)).length ≤ k := by
      rw [List.length_map]
      exact Nat.le_trans (List.length_filter_le _ _) (by rw [List.length_take]; omega)
    have hfirst : selF g l (R.getD k []) = true → ((R.take k).filter (selF g l)).map (truthsF g l) = [] → R.getD k [] = (canF g l).getD 0 [] := by
      intro hs he
      have he : (R.take k).filter (selF g l) = [] := List.map_eq_nil_iff.1 he
      have hs' : selF g l R[k] = true := by rw [getD_lt hk] at hs; exact hs
      have e1 : R = R.take k ++ (R[k] :: R.drop (k + 1)) := by rw [← List.drop_eq_getElem_cons hk, List.take_append_drop]
      have e2 : R.filter (selF g l) = R[k] :: (R.drop (k + 1)).filter (selF g l) := by
        conv => lhs; rw [e1]
        rw [List.filter_append, he, List.nil_append, List.filter_cons, if_pos hs']
      rw [← cs, e2, getD_lt hk]
      rfl
    simp only [Int.toNat_natCast, hw]
    obtain ⟨fk, hfk⟩ : ∃ fk, fk = R.getD k [] := ⟨_, rfl⟩
    simp only [← hfk] at hI hm fl ff hfirst ⊢
    generalize ((R.take k).filter (selF g l)).map (truthsF g l) = C at *
    refine ⟨g, ⟨lg, rfl⟩, l, ⟨ll, rfl⟩, by omega, by omega, by rw [fl]; simp only [List.length_nil]; omega, _, rfl, fun b => b = !(okOrd fk && rightF g l fk), ?_, ?_⟩
    · unfold truthFn
      rw [if_neg (by simp [hck]), ff]
      cases okOrd fk with
      | false => exact rfl
      | true => cases rightF g l fk with
        | false => exact rfl
        | true => exact rfl
    rintro _ rfl
    cases hsel : okOrd fk && rightF g l fk with
    | false =>
      have : selF g l fk = false := by
        unfold selF
        rw [← Bool.and_assoc, hsel]; rfl
      rw [this, if_neg (by simp), List.append_nil] at hI
      exact hI
    | true =>
      rw [Bool.and_eq_true] at hsel
      obtain ⟨ho, hr⟩ := hsel
      have et : truthFn g l fk = (truthsF g l fk, 0) := by rw [truthFn_eq v (by rw [ff]; exact ho), if_pos hr]
      have og := orig_neg (show isFamF fk l.length = true by rw [ff]; exact ho)
      have og1 := orig_neg fst1
      have few := few_least hm ho hr
      have tl := (truths_len g l fk).1
      have es : selF g l fk = decide (origF fk = fewO g l) := by unfold selF; rw [ho, hr]; rfl
      simp only [et, og, og1, fst2]
      refine ⟨fun b => b = false, cnd_f' rfl fun _ _ => cnd_f' (by simp [tl]) ⟨by omega, by omega, by omega, by omega, decide_eq_false (by omega)⟩, ?_⟩
      rintro _ rfl
      refine cnd_f' rfl ⟨by omega, by omega, by omega, by omega, cnd_iff.2 ⟨fun h1 => ?_, fun h1 => ⟨fun b => b = false, ?_, ?_⟩⟩⟩
      · have h1 := of_decide_eq_true h1
        have : selF g l fk = false := by rw [es]; exact decide_eq_false (by omega)
        rw [this, if_neg (by simp), List.append_nil] at hI
        exact hI
      · intro _
        have h1 := of_decide_eq_false h1
        have hs : selF g l fk = true := by rw [es]; exact decide_eq_true (by omega)
        refine cnd_iff.2 ⟨fun h2 => ⟨by omega, by omega, ?_⟩, fun _ => rfl⟩
        have h2 : C.length = 0 := by
          have := eq_of_beq h2
          omega
        rw [hfirst hs (List.length_eq_zero_iff.1 h2)]
        simp
      · rintro _ rfl
        have h1 := of_decide_eq_false h1
        have hs : selF g l fk = true := by rw [es]; exact decide_eq_true (by omega)
        rw [hs, if_pos rfl] at hI
        exact cnd_f' rfl ⟨by simp only [List.length_cons, List.length_nil]; omega, hI⟩
  simp only [List.take_length, cs]
  have hlC : ((canF g l).map (truthsF g l)).length = (canF g l).length := List.length_map _
  refine fun _ => cnd_f' (by rw [hlC]; simp) ?_
  have hCg : ∀ i, i < (canF g l).length → ((canF g l).map (truthsF g l)).getD i [] = truthsF g l ((canF g l).getD i []) := fun i hi => map_getD' _ _ _ _ _ hi
  have hCs : ∀ {m n : Nat} {z : Int}, m < 2 → n < l.length → (((canF g l).map (truthsF g l)).countP fun c => inB ((c.getD n []).getD m (0, 0)).1 ((c.getD n []).getD m (0, 0)).2 z) = stillF (saysF g l (canF g l) m) n z := by
    intro m n z hm hn
    unfold stillF saysF
    rw [List.countP_map, List.countP_map]
    congr 1
    funext c
    simp only [Function.comp]
    unfold truthsF
    rw [map_range_getD _ _ _ _ hn, map_range_getD _ _ _ _ (by omega)]
    rfl
  generalize hC : (canF g l).map (truthsF g l) = C at *
  refine ⟨fun x => x = 0 ∨ x = 1 ∨ x = 2, fun x => (2 - x).toNat, .inl rfl, fun x hx3 => ?_⟩
  refine ⟨fun b => b = true → x < 2 ∧ 0 < l.length, cnd_iff.2 ⟨fun h1 _ h2 => ⟨of_decide_eq_true h1, by have := of_decide_eq_true h2; omega⟩, fun _ hh => by cases hh⟩, fun b hb2 => ?_⟩
  refine cnd_iff.2 ⟨fun hb1 => ?_, fun _ => h⟩
  obtain ⟨hx2, hl0⟩ := hb2 hb1
  have hb' := hb
  unfold byteB at hb'
  have hx01 : x = 0 ∨ x = 1 := by omega
  have hwx : IntKind.wrap .i64 (x + 1) = x + 1 := wrapS (by omega) (by omega)
  have next : (x + 1 = 0 ∨ x + 1 = 1 ∨ x + 1 = 2) ∧ (2 - (x + 1)).toNat < (2 - x).toNat := ⟨by omega, by omega⟩
  refine ⟨fun s' => (0 ≤ s'.1 ∧ s'.1 < 2 ∧ 0 ≤ s'.2 ∧ s'.2 < l.length) ∧ (x = 0 → e = 0 ∧ s' = s), cnd_iff.2 ⟨fun h1 => ⟨by omega, by omega, fun _ => ⟨by omega, ?_, fun h0 => ?_⟩⟩, fun h1 => cnd_iff.2 ⟨fun _ => by simp only [hwx]; exact next, fun h2 => ?_⟩⟩, ?_⟩
  · rw [by_wrap hb, tdiv_nn hb'.1, wrapS (x := bb / 8) (by omega) (by omega), tmod_nn (show 0 ≤ bb / 8 by omega), tmod_nn hb'.1]
    have a := Int.emod_nonneg bb (show (l.length : Int) ≠ 0 by omega)
    have b := Int.emod_lt_of_pos bb (show (0 : Int) < l.length by omega)
    exact ⟨by omega, by omega, a, b⟩
  · have h1 : x = 1 := eq_of_beq h1
    omega
  · have h2 : e = 0 := by simpa using h2
    rcases hprop with ⟨h3, _⟩ | ⟨_, _, _, m, n, hm, hn, rfl, _⟩
    · omega
    · exact ⟨⟨by simp only; omega, by simp only; omega, by simp only; omega, by simp only; omega⟩, fun _ => ⟨h2, rfl⟩⟩
  rintro ⟨m', n'⟩ ⟨⟨a1, a2, a3, a4⟩, hs0⟩
  simp only at a1 a2 a3 a4
  obtain ⟨m, rfl⟩ : ∃ k : Nat, m' = k := ⟨m'.toNat, by omega⟩
  obtain ⟨n, rfl⟩ : ∃ k : Nat, n' = k := ⟨n'.toNat, by omega⟩
  have hm : m < 2 := by omega
  have hn : n < l.length := by omega
  have hv := v.fan_v hn (show m < g.1.length by omega)
  have hvl := v.fan hn
  have ho := gg_off hg hm
  simp only [Int.toNat_natCast]
  simp only [wrapS (x := (l.getD n []).getD m 0 - g.1.getD m 0) (by omega) (by omega), wrapS (x := (l.getD n []).getD m 0 + g.1.getD m 0) (by omega) (by omega)]
  have hM : mostN (saysF g l (canF g l) m) n ((l.getD n []).getD m 0 - g.1.getD m 0) (2 * g.1.getD m 0 + 1).toNat = mostAt g l (canF g l) m n := by
    unfold mostAt trulyF
    simp only
    congr 2
    omega
  refine ⟨a3, a4, a1, by omega, a1, by omega, fun x4 x5 => ∃ j : Nat, (j : Int) ≤ 2 * g.1.getD m 0 + 1 ∧ x4 = (l.getD n []).getD m 0 - g.1.getD m 0 + j ∧ x5 = mostN (saysF g l (canF g l) m) n ((l.getD n []).getD m 0 - g.1.getD m 0) j, fun x4 _ => ((l.getD n []).getD m 0 + g.1.getD m 0 + 1 - x4).toNat, ⟨0, by omega, by omega, rfl⟩, ?_⟩
  rintro _ _ ⟨j, hj, rfl, rfl⟩
  refine cnd_iff.2 ⟨fun h1 => ?_, fun h1 => ?_⟩
  · have h1 := of_decide_eq_true h1
    have hw4 : IntKind.wrap .i64 ((l.getD n []).getD m 0 - g.1.getD m 0 + (j : Int) + 1) = (l.getD n []).getD m 0 - g.1.getD m 0 + ((j + 1 : Nat) : Int) := by rw [wrapS (by omega) (by omega)]; omega
    simp only [hw4]
    refine forUpL (n := C.length) (fun i => (((C.take i).countP fun c => inB ((c.getD n []).getD m (0, 0)).1 ((c.getD n []).getD m (0, 0)).2 ((l.getD n []).getD m 0 - g.1.getD m 0 + (j : Int)) : Nat) : Int)) rfl (fun i hi I μ hI hw => ?_) ?_
    · have tc := take_count (fun c : List (List Span) => inB ((c.getD n []).getD m (0, 0)).1 ((c.getD n []).getD m (0, 0)).2 ((l.getD n []).getD m 0 - g.1.getD m 0 + (j : Int))) C hi []
      rw [tc] at hI
      have cl : ((C.take i).countP fun c => inB ((c.getD n []).getD m (0, 0)).1 ((c.getD n []).getD m (0, 0)).2 ((l.getD n []).getD m 0 - g.1.getD m 0 + (j : Int))) ≤ i := Nat.le_trans List.countP_le_length (by rw [List.length_take]; omega)
      have hi' : i < (canF g l).length := by omega
      have ht := truths_len g l ((canF g l).getD i [])
      rw [← hCg i hi'] at ht
      have ht2 := ht.2 n hn
      simp only [Int.toNat_natCast, hw]
      generalize C.getD i [] = c at *
      refine ⟨by omega, by omega, by omega, by omega, cnd_f' (by rw [ht2, l1]; rfl) ⟨by omega, by omega, by omega, by omega, by omega, by omega, _, rfl, cnd_iff.2 ⟨fun h3 => ?_, fun h3 => ?_⟩⟩⟩
      · rw [h3, if_pos rfl] at hI
        rw [wrapS (by omega) (by omega)]
        exact hI
      · rw [h3, if_neg (by simp), Nat.add_zero] at hI
        exact hI
    · simp only [List.take_length]
      rw [hCs hm hn]
      exact ⟨⟨j + 1, by omega, rfl, rfl⟩, by omega⟩
  · have h1 := of_decide_eq_false h1
    have hjW : j = (2 * g.1.getD m 0 + 1).toNat := by omega
    subst hjW
    rw [hM]
    simp only [hwx]
    refine ⟨fun b => b = false, ?_, ?_⟩
    · rcases hx01 with rfl | rfl
      · obtain ⟨he, hse⟩ := hs0 rfl
        subst he
        rcases hprop with ⟨h3, _⟩ | ⟨_, _, _, m2, n2, _, _, hss, hle, _⟩
        · omega
        · rw [← hse] at hss
          have e1 : m = m2 := by have := congrArg Prod.fst hss; simp only at this; omega
          have e2 : n = n2 := by have := congrArg Prod.snd hss; simp only at this; omega
          subst e1; subst e2
          exact cnd_t' rfl (cnd_f' (by simp [hle]) (cnd_f' rfl rfl))
      · rcases hprop with ⟨rfl, _, _, hall⟩ | ⟨rfl, _, _, m2, n2, _, _, _, _, hall⟩
        · have := hall m n hm hn
          exact cnd_f' rfl (cnd_t' rfl (cnd_f' rfl (cnd_t' rfl (decide_eq_false (by omega)))))
        · have := hall m n hm hn
          exact cnd_f' rfl (cnd_t' rfl (cnd_t' rfl (cnd_f' (decide_eq_false (by omega)) (cnd_f' rfl rfl))))
    · rintro _ rfl
      exact cnd_f' rfl next
end Go.Proofs.Tw
set_option maxRecDepth 100000
namespace Go.Proofs.Tw
open Go Go.GX Go.Proofs

theorem ok55 : ∀ k, CallsOK Tryd.prog (assoc glT) 55 (f55_ct k)
  | 0 => callsOK_mk [] st_ok mk_ok in_ok AllOK.nil f55_an Tryd.func55 (by kernel_rfl) (by kernel_rfl) (f55_ct 0) fun ⟨n, s, _⟩ _ Q h => (V55zE n s Q).mp (p55z h)
  | k + 1 => callsOK_mk [] st_ok mk_ok in_ok (AllOK.cons (ok55 k) AllOK.nil) f55_an Tryd.func55 (by kernel_rfl) (by kernel_rfl) (f55_ct (k + 1)) fun ⟨n, s, _⟩ _ Q h => (V55E k n s Q).mp (p55 h)
theorem ok55a : CallsOK Tryd.prog (assoc glT) 55 f55a_ct where
  enters := (ok55 0).enters
  calls := fun X W x y vs cs hX hg hv hc Q hQ => let ⟨k, hk⟩ := hQ; (ok55 k).calls X W x y vs cs hX hg hv hc Q hk
theorem ok13 : CallsOK Tryd.prog (assoc glT) 13 f13_ct :=
  callsOK_mk [] st_ok mk_ok in_ok (AllOK.cons ok45 (AllOK.cons ok52 (AllOK.cons ok47 (AllOK.cons ok48o (AllOK.cons ok54 (AllOK.cons ok43 (AllOK.cons ok51 (AllOK.cons ok55a (AllOK.cons ok37 (AllOK.cons ok56 (AllOK.cons ok57 (AllOK.cons ok49 (AllOK.cons ok18 AllOK.nil))))))))))))) f13_an Tryd.func13 (by kernel_rfl) (by kernel_rfl) f13_ct fun ⟨x, bb, _⟩ _ Q h => (v13 x bb Q).mp (p13 h)
end Go.Proofs.Tw
set_option maxRecDepth 100000
set_option linter.unusedVariables false
namespace Go.Proofs.Tw
open Go Go.GX Go.Proofs Go.ChangeShapes Go.WideShapes Go.ChangeAt Go.RowKit
open Go.Proofs.YtnhgfmegaoibeaaDoor
theorem lifted13 (ok : CallsOK Tryd.prog (assoc glT) 13 f13_ct) (os : Os) (started : os.Started) (H : Type) (enc : TypeId × Value → H) :
    ReturnsInHanded {} Tryd.checked os 13 .any (fun w args => (Rows.twinAnewSpec.pre enc Tryd.prog Tryd.f13 Rows.twinAnewRow.domain false w args ∧ laidMetH Tryd.prog Rows.twinAnewRow.laid w) ∧ sizedMet enc Tryd.prog Tryd.f13 (OpenSpec.ofChange Rows.twinAnewSpec) false w args)
      (Rows.twinAnewSpec.post enc Tryd.prog Tryd.f13 false true false false) := by
  refine returnsInHanded_of_change_and (C := Tryd.checked) (X := fun w _ => laidMetH Tryd.prog Rows.twinAnewRow.laid w) (fun _ _ _ hh h => h.of_heap hh) own9 started (by kernel_rfl) Tryd.func13
    (ChangeSpec.witness_shaped (enc := enc) (C := Tryd.checked) (os := os) (X := fun w _ => laidMetH Tryd.prog Rows.twinAnewRow.laid w) false (World.laidAll Tryd.prog os Rows.twinAnewRow.laid) #[.agg #[.int .u8 0, .int .u8 0, .int .u8 0, .int .u8 0, .int .u8 0, .int .u8 0, .slice none 0 0], .int .u8 0] 8 (World.laidAll_os _ _ _)
      (World.shaped_of_ZipB (by kernel_rfl) (by kernel_rfl)) (by kernel_rfl) (by kernel_rfl) (by kernel_rfl)
      (by rw [MakeChecks.laidMetH_plain _ _ _ (by kernel_rfl)]; exact laidMet_laidAll _ (by kernel_rfl) (by kernel_rfl))) ?_
  intro W base args ds gs before hval0 hW hc _ hL _
  have hval : ∀ (j : Nat) t v, Tryd.f13.params[j]? = some t → args[j]? = some v → Value.okWide Tryd.prog W .any base t v := hval0
  have hW' := hW
  obtain ⟨p, q, hA0, hV, rfl, hfz, hnd⟩ := hW
  have hA : DataW.TrodAll enc Tryd.prog W 0 (fun _ => true) true Tryd.f13.params.toList args.toList ds p := hA0
  rw [Tryd.params13] at hA hval
  obtain ⟨v0, v1, d0, d1, p0, p1, rfl, rfl, rfl, h0, h1⟩ := trodAll_two hA
  obtain ⟨rfl, rfl⟩ := trodVars_none hV
  simp only [List.append_nil] at hW'
  refine (lawBB rfl ok hL (hval 0 71 v0 rfl rfl) h0 (hval 1 5 v1 rfl rfl) h1).mono fun e W' ⟨he, hb⟩ => ?_
  subst he
  have hlt0 : ∀ x ∈ p0, x.block < W.heap.size := fun x hx => by simpa using hW'.lt x (by simp [hx])
  have hlt1 : ∀ x ∈ p1, x.block < W.heap.size := fun x hx => by simpa using hW'.lt x (by simp [hx])
  refine ⟨_, rfl, _, _, _, [], p0 ++ p1, [], hW', ?_, ?_, rfl, hb.frame _, fun h => by cases h⟩
  · exact trodAll_mk1 (shut_bool (by kernel_rfl) _)
  · exact trodAll_mk2 (Below.trod laidOut9 (by kernel_rfl) (of_decide_eq_true (by kernel_rfl)) h0 hb hlt0) (Below.trod laidOut9 (by kernel_rfl) (of_decide_eq_true (by kernel_rfl)) h1 hb hlt1)
theorem holds13 (ok : CallsOK Tryd.prog (assoc glT) 13 f13_ct) : Rows.TwinAnewSaid :=
  OpenClaim.holds_of_wide 13 Tryd.f13 rfl rfl rfl rfl rfl rfl rfl ⟨rfl, rfl, rfl, rfl, rfl⟩ rfl rfl rfl rfl rfl (by kernel_rfl) Tryd.func13 (by kernel_rfl)
    (of_decide_eq_true (by kernel_rfl)) (by unfold Func.isWrapper; first | (rw [if_pos (by decide +kernel)]; kernel_rfl) | (rw [if_neg (by decide +kernel)]; exact ⟨rfl, rfl⟩))
    (fun os started H enc _ => lifted13 ok os started H enc)
end Go.Proofs.Tw
