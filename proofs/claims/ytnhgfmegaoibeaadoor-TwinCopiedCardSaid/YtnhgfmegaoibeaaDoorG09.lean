/- Part 9 of the texts behind the proof: TwBr9, TwC14, TwC15, TwV23, TwV12, TwV13, TwM3, TwM4, TwM5, TwV10, TwV11, TwV9, TwV7, TwV8, TwP13, TwP14, TwP15, TwP16, TwP17, TwM6, TwM7, TwM8, TwP18, TwM9, TwM12, TwM13, TwM14, TwM15, TwM16, TwV17, TwM18, TwM19, TwM17, TwP28a, TwP34, TwO16, TwR16. -/
import Derived.Test.YtnhgfmegaoibeaaDoorG08
import Derived.Test.YtnhgfmegaoibeaaDoorProg
import Derived.SevenTiedAt
set_option linter.unusedSimpArgs false
set_option linter.unusedVariables false
set_option maxRecDepth 100000
set_option linter.unusedVariables false
namespace Go.Proofs.Tw
open Go Go.GX Go.Proofs Go.ChangeShapes Go.WideShapes Go.ChangeAt Go.RowKit
open Go.Proofs.YtnhgfmegaoibeaaDoor
section
variable {H : Type} {enc : TypeId × Value → H} {W : World} {base b0 : Nat} {spare : Nat → Bool} {held : Bool} {v : Value} {d : DataW H} {p : List MemPlace}
theorem argR {K : Kd} {t : TypeId} (hf : fitK Tryd.prog K (.ty t) = true) {cs : List Value} (h : ∃ fuel x, DataW.trod enc Tryd.prog W base spare held fuel t cs = some x) :
    ∃ x : K.T, (K.sem Tryd.prog).cells (fun _ => False) W x cs ∧ K.rng x := by
  obtain ⟨fuel, d, h⟩ := h
  exact fit_rng K (.ty t) cs hf ⟨fuel, d, h⟩ (fun _ _ h => by cases h)
theorem arg_aggR {K : Kd} {t : TypeId} {fs : Array Field} (hu : Tryd.prog.underlying t = some (.struct fs)) (hf : fitK Tryd.prog (.agg K) (.ty t) = true) (hv : Value.okWide Tryd.prog W .any b0 t v) (h : DataW.Trod enc Tryd.prog W base spare held t v d p) :
    ∃ x : K.T, ((Kd.agg K).sem Tryd.prog).val (fun _ => False) W x v ∧ K.rng x := by
  obtain ⟨cs, rfl, _⟩ := okWide_struct hu hv
  obtain ⟨fuel, h⟩ := h
  obtain ⟨x, hx, hr⟩ := argR (K := .agg K) hf ⟨fuel, _, h⟩
  exact ⟨x, ⟨cs.toList, by simp, hx⟩, hr⟩
end
theorem byte_wf {x : Int} (h : (Lit.int .u8 x).wf = true) : byteB x := by
  have h1 : IntKind.u8.min = 0 := rfl
  have h2 : IntKind.u8.max = 255 := rfl
  simp only [Lit.wf, h1, h2, Bool.and_eq_true, decide_eq_true_eq] at h
  exact h
theorem gd_rng {x : Gauged} (h : Kd.rng (.pair kA4 (.pair kA2 (.sl 67 kA4))) x) : GdOK x := by
  obtain ⟨⟨h1, h2, h3, h4⟩, ⟨h5, h6⟩, h7⟩ := h
  refine ⟨⟨byte_wf h1, byte_wf h2, byte_wf h3, byte_wf h4⟩, ⟨byte_wf h5, byte_wf h6⟩, fun v hv => ?_⟩
  obtain ⟨k1, k2, k3, k4⟩ := h7 v hv
  exact ⟨byte_wf k1, byte_wf k2, byte_wf k3, byte_wf k4⟩
theorem u71 : ∃ fs, Tryd.prog.underlying 71 = some (.struct fs) := ⟨_, rfl⟩
theorem fit71 : fitK Tryd.prog kGd (.ty 71) = true := by kernel_rfl
theorem lawB {f : FuncId} {ct : Ct} (hA : ct = ⟨kGd, .unit, .bool, fun x _ Q => GdOK x ∧ Q true, false, false⟩) (ok : CallsOK Tryd.prog (assoc glT) f ct) {H : Type} {enc : TypeId × Value → H} {W : World} {base b0 : Nat} {spare : Nat → Bool} {held : Bool} {v0 : Value} {d0 : DataW H} {p0 : List MemPlace}
    (hl : laidMetH Tryd.prog [("panache/twin.anything", Rows.laid_panache_twin_anything)] W) (o0 : Value.okWide Tryd.prog W .any b0 71 v0) (h0 : DataW.Trod enc Tryd.prog W base spare held 71 v0 d0 p0) :
    Calls Tryd.prog f #[v0] W fun e W' => e = .returned (.bool true) ∧ Below W.heap.size W W' := by
  subst hA
  obtain ⟨fs, hu⟩ := u71
  obtain ⟨x, ⟨cs, rfl, hx⟩, hr⟩ := arg_aggR hu fit71 o0 h0
  have := ok.calls (fun _ => False) W x () [.agg cs.toArray] [] (fun _ h => h.elim) (laid_glb hl) ⟨cs, rfl, hx⟩ rfl (fun r => r = true) ⟨gd_rng hr, rfl⟩
  refine this.mono fun e W' h => ?_
  obtain ⟨r, v, he, hv, hb, hr⟩ := h
  have hv : v = .bool r := hv
  subst hr
  exact ⟨by rw [he, hv], hb⟩
end Go.Proofs.Tw
namespace Go.Proofs.Tw
open Go Go.GX Go.Proofs
end Go.Proofs.Tw
namespace Go.Proofs.Tw
open Go Go.GX Go.Proofs
def f16_ct : Ct := ⟨kGd, .unit, .bool, fB_wp, false, false⟩
abbrev f16_wp := fB_wp
def f16_an : Nat → Items
  | 0 => [.t 7 kI]
  | 2 => [.t 21 kI]
  | 4 => [.t 22 kI]
  | 6 => [.t 23 kI]
  | 1000008 => [.t 79 .bool]
  | 1000014 => [.t 177 .bool]
  | 1000022 => [.t 260 .bool]
  | 1000027 => [.t 290 .bool]
  | _ => []
end Go.Proofs.Tw
set_option linter.unusedVariables false
set_option maxRecDepth 100000
namespace Go.Proofs.Tw
open Go Go.GX Go.Proofs

def V16 (x : (Int × Int × Int × Int) × (Int × Int) × List (Int × Int × Int × Int)) (Q : Bool → Prop) : Prop := f45_wp ((Prod.fst (Prod.fst x), Prod.fst (Prod.snd (Prod.fst x)), Prod.fst (Prod.snd (Prod.snd (Prod.fst x))), Prod.snd (Prod.snd (Prod.snd (Prod.fst x)))), (Prod.fst (Prod.fst (Prod.snd x)), Prod.snd (Prod.fst (Prod.snd x))), Prod.snd (Prod.snd x)) () fun (r : List Int × List Int × List (Int × Int)) ↦ f52_wp (((Prod.fst (Prod.fst x), Prod.fst (Prod.snd (Prod.fst x)), Prod.fst (Prod.snd (Prod.snd (Prod.fst x))), Prod.snd (Prod.snd (Prod.snd (Prod.fst x)))), (Prod.fst (Prod.fst (Prod.snd x)), Prod.snd (Prod.fst (Prod.snd x))), Prod.snd (Prod.snd x)), (Prod.fst r, Prod.fst (Prod.snd r), Prod.snd (Prod.snd r)), ()) () fun (r_1 : List (List Int) × List (Int × Int) × List Int × Unit) ↦ ∃ (I : Int → Prop), ∃ (μ : Int → Nat), I (0 : Int) ∧ ∀ (x : Int), I x → List.length (List.map (fun (x : List Int) ↦ x) (Prod.fst r_1)) ≤ (9223372036854775807 : Nat) → cnd (decide (x < (↑(List.length (List.map (fun (x : List Int) ↦ x) (Prod.fst r_1))) : Int))) ((0 : Int) ≤ x ∧ x < (↑(List.length (Prod.fst (Prod.snd (Prod.snd r_1)))) : Int) ∧ cnd (decide (List.getD (Prod.fst (Prod.snd (Prod.snd r_1))) (Int.toNat x) (0 : Int) < (0 : Int))) (I (IntKind.wrap IntKind.i64 (x + (1 : Int))) ∧ μ (IntKind.wrap IntKind.i64 (x + (1 : Int))) < μ x) (∃ (r_2 : List Int × List Int × List (Int × Int)), (f47_wp (Prod.fst r, Prod.fst (Prod.snd r), Prod.snd (Prod.snd r)) () fun (r' : List Int × List Int × List (Int × Int)) ↦ r' = r_2) ∧ ∃ (r_3 : List (List Int)), (f48_wp (List.map (fun (x : List Int) ↦ x) (Prod.fst r_1)) () fun (r' : List (List Int)) ↦ r' = r_3) ∧ (0 : Int) ≤ x ∧ x < (↑(List.length (Prod.fst (Prod.snd (Prod.snd r_1)))) : Int) ∧ (0 : Int) ≤ List.getD (Prod.fst (Prod.snd (Prod.snd r_1))) (Int.toNat x) (0 : Int) ∧ List.getD (Prod.fst (Prod.snd (Prod.snd r_1))) (Int.toNat x) (0 : Int) < (↑(List.length r_3) : Int) ∧ ∃ (r_4 : List (List Int)), (f48_wp (List.map (fun (x : List Int) ↦ x) (Prod.fst r_1)) () fun (r' : List (List Int)) ↦ r' = r_4) ∧ (0 : Int) ≤ x ∧ x < (↑(List.length r_4) : Int) ∧ ∃ (r_5 : Bool × Bool × Int × Unit), (f58_wp ((Prod.fst r_2, Prod.fst (Prod.snd r_2), Prod.snd (Prod.snd r_2)), List.getD r_3 (Int.toNat (List.getD (Prod.fst (Prod.snd (Prod.snd r_1))) (Int.toNat x) (0 : Int))) ([] : List Int), List.getD r_4 (Int.toNat x) ([] : List Int), ()) () fun (r' : Bool × Bool × Int × Unit) ↦ r' = r_5) ∧ ∃ (I_1 : Bool → Prop), cnd (Prod.fst (Prod.snd (Prod.snd r_5)) != (0 : Int)) (I_1 true) (cnd (!Prod.fst (Prod.snd r_5)) (I_1 true) (cnd (Prod.fst r_5) (f53_wp ((Prod.fst r, Prod.fst (Prod.snd r), Prod.snd (Prod.snd r)), List.map (fun (x : List Int) ↦ x) (Prod.fst r_1), Prod.fst (Prod.snd (Prod.snd r_1)), ()) () fun (r : Bool) ↦ I_1 !r) (I_1 false))) ∧ ∀ (x_1 : Bool), I_1 x_1 → cnd x_1 (Q false) (I (IntKind.wrap IntKind.i64 (x + (1 : Int))) ∧ μ (IntKind.wrap IntKind.i64 (x + (1 : Int))) < μ x))) (f47_wp (Prod.fst r, Prod.fst (Prod.snd r), Prod.snd (Prod.snd r)) () fun (r_2 : List Int × List Int × List (Int × Int)) ↦ f48_wp (List.map (fun (x : List Int) ↦ x) (Prod.fst r_1)) () fun (r_3 : List (List Int)) ↦ (List.length ([] : List Int) + List.length (Prod.fst (Prod.snd (Prod.snd r_1)))) * (8 : Nat) ≤ (140737488355328 : Nat) ∧ f37_wp ((Prod.fst r_2, Prod.fst (Prod.snd r_2), Prod.snd (Prod.snd r_2)), List.map (fun (x : List Int) ↦ x) r_3, ([] : List Int) ++ Prod.fst (Prod.snd (Prod.snd r_1)), ()) () fun (r_4 : List (List (Int × Int)) × Int × Unit) ↦ f47_wp (Prod.fst r, Prod.fst (Prod.snd r), Prod.snd (Prod.snd r)) () fun (r_5 : List Int × List Int × List (Int × Int)) ↦ f48_wp (List.map (fun (x : List Int) ↦ x) (Prod.fst r_1)) () fun (r_6 : List (List Int)) ↦ (List.length ([] : List Int) + List.length (Prod.fst (Prod.snd (Prod.snd r_1)))) * (8 : Nat) ≤ (140737488355328 : Nat) ∧ f41_wp ((Prod.fst r_5, Prod.fst (Prod.snd r_5), Prod.snd (Prod.snd r_5)), List.map (fun (x : List Int) ↦ x) r_6, ([] : List Int) ++ Prod.fst (Prod.snd (Prod.snd r_1)), ()) () fun (r_7 : List (Int × Int) × Int × Unit) ↦ f47_wp (Prod.fst r, Prod.fst (Prod.snd r), Prod.snd (Prod.snd r)) () fun (r_8 : List Int × List Int × List (Int × Int)) ↦ f48_wp (List.map (fun (x : List Int) ↦ x) (Prod.fst r_1)) () fun (r_9 : List (List Int)) ↦ f54_wp ((Prod.fst r_8, Prod.fst (Prod.snd r_8), Prod.snd (Prod.snd r_8)), List.map (fun (x : List Int) ↦ x) r_9, ()) () fun (r_10 : Int × List Int × Int × Unit) ↦ f47_wp (Prod.fst r, Prod.fst (Prod.snd r), Prod.snd (Prod.snd r)) () fun (r_11 : List Int × List Int × List (Int × Int)) ↦ f48_wp (List.map (fun (x : List Int) ↦ x) (Prod.fst r_1)) () fun (r_12 : List (List Int)) ↦ f60_wp ((Prod.fst r_11, Prod.fst (Prod.snd r_11), Prod.snd (Prod.snd r_11)), List.map (fun (x : List Int) ↦ x) r_12, ()) () fun (r_13 : List Int × List Int × Int × Unit) ↦ ∃ (I : Bool → Prop), cnd (Prod.fst (Prod.snd r_4) != (0 : Int)) (I true) (cnd (Prod.fst (Prod.snd r_7) != (0 : Int)) (I true) (cnd (Prod.fst (Prod.snd (Prod.snd r_10)) != (0 : Int)) (I true) (cnd (Prod.fst (Prod.snd (Prod.snd r_13)) != (0 : Int)) (I true) (List.length (Prod.fst r_4) ≤ (9223372036854775807 : Nat) → List.length (List.map (fun (x : List Int) ↦ x) (Prod.fst r_1)) ≤ (9223372036854775807 : Nat) → cnd ((↑(List.length (Prod.fst r_4)) : Int) != (↑(List.length (List.map (fun (x : List Int) ↦ x) (Prod.fst r_1))) : Int)) (I true) (List.length (Prod.fst r_7) ≤ (9223372036854775807 : Nat) → cnd ((↑(List.length (Prod.fst r_7)) : Int) != (0 : Int)) (I true) (cnd (decide (Prod.fst r_10 < (1 : Int))) (I true) (f53_wp ((Prod.fst r, Prod.fst (Prod.snd r), Prod.snd (Prod.snd r)), List.map (fun (x : List Int) ↦ x) (Prod.fst r_1), Prod.fst (Prod.snd r_10), ()) () fun (r : Bool) ↦ cnd (!r) (I true) (f56_wp (Prod.fst (Prod.snd r_10)) () fun (r : Int) ↦ f56_wp (Prod.fst (Prod.snd (Prod.snd r_1))) () fun (r_14 : Int) ↦ cnd (decide (r > r_14)) (I true) (List.length (Prod.fst r_13) ≤ (9223372036854775807 : Nat) → f56_wp (Prod.fst (Prod.snd r_10)) () fun (r : Int) ↦ cnd (decide ((↑(List.length (Prod.fst r_13)) : Int) > r)) (I true) (List.length (Prod.fst (Prod.snd r_13)) ≤ (9223372036854775807 : Nat) → f56_wp (Prod.fst (Prod.snd r_10)) () fun (r : Int) ↦ I (decide ((↑(List.length (Prod.fst (Prod.snd r_13))) : Int) < r)))))))))))) ∧ ∀ (x : Bool), I x → cnd x (Q false) (∃ (I : Int → Prop), ∃ (μ : Int → Nat), I (0 : Int) ∧ ∀ (x : Int), I x → List.length (List.map (fun (x : List Int) ↦ x) (Prod.fst r_1)) ≤ (9223372036854775807 : Nat) → cnd (decide (x < (↑(List.length (List.map (fun (x : List Int) ↦ x) (Prod.fst r_1))) : Int))) (∃ (I_1 : Int → Prop), ∃ (μ_1 : Int → Nat), I_1 (0 : Int) ∧ ∀ (x_1 : Int), I_1 x_1 → cnd (decide (x_1 < (2 : Int))) (∃ (I : Bool → Prop), ((0 : Int) ≤ x ∧ x < (↑(List.length (Prod.fst r_4)) : Int) ∧ cnd ((↑(List.length (List.getD (Prod.fst r_4) (Int.toNat x) ([] : List (Int × Int)))) : Int) != (2 : Int)) (I true) ((0 : Int) ≤ x ∧ x < (↑(List.length (Prod.fst (Prod.snd r_1))) : Int) ∧ (0 : Int) ≤ x_1 ∧ x_1 < (↑(2 : Nat) : Int) ∧ cnd (decide (x_1 = (↑(0 : Nat) : Int))) ((0 : Int) ≤ x ∧ x < (↑(List.length (Prod.fst r_4)) : Int) ∧ (0 : Int) ≤ x_1 ∧ x_1 < (↑(List.length (List.getD (Prod.fst r_4) (Int.toNat x) ([] : List (Int × Int)))) : Int) ∧ ∃ (r_14 : Bool), (f49_wp (Prod.fst (List.getD (Prod.fst (Prod.snd r_1)) (Int.toNat x) ((0 : Int), (0 : Int))), (Prod.fst (List.getD (List.getD (Prod.fst r_4) (Int.toNat x) ([] : List (Int × Int))) (Int.toNat x_1) ((0 : Int), (0 : Int))), Prod.snd (List.getD (List.getD (Prod.fst r_4) (Int.toNat x) ([] : List (Int × Int))) (Int.toNat x_1) ((0 : Int), (0 : Int)))), ()) () fun (r' : Bool) ↦ r' = r_14) ∧ cnd (!r_14) (I true) ((0 : Int) ≤ x ∧ x < (↑(List.length (Prod.fst r_4)) : Int) ∧ (0 : Int) ≤ x_1 ∧ x_1 < (↑(List.length (List.getD (Prod.fst r_4) (Int.toNat x) ([] : List (Int × Int)))) : Int) ∧ (0 : Int) ≤ x ∧ x < (↑(List.length (Prod.fst r_1)) : Int) ∧ (0 : Int) ≤ x_1 ∧ x_1 < (↑(List.length (List.getD (Prod.fst r_1) (Int.toNat x) ([] : List Int))) : Int) ∧ (0 : Int) ≤ x_1 ∧ x_1 < (↑(List.length (Prod.fst r)) : Int) ∧ cnd (decide (Prod.fst (List.getD (List.getD (Prod.fst r_4) (Int.toNat x) ([] : List (Int × Int))) (Int.toNat x_1) ((0 : Int), (0 : Int))) < IntKind.wrap IntKind.i64 (List.getD (List.getD (Prod.fst r_1) (Int.toNat x) ([] : List Int)) (Int.toNat x_1) (0 : Int) - List.getD (Prod.fst r) (Int.toNat x_1) (0 : Int)))) (I true) ((0 : Int) ≤ x ∧ x < (↑(List.length (Prod.fst r_4)) : Int) ∧ (0 : Int) ≤ x_1 ∧ x_1 < (↑(List.length (List.getD (Prod.fst r_4) (Int.toNat x) ([] : List (Int × Int)))) : Int) ∧ (0 : Int) ≤ x ∧ x < (↑(List.length (Prod.fst r_1)) : Int) ∧ (0 : Int) ≤ x_1 ∧ x_1 < (↑(List.length (List.getD (Prod.fst r_1) (Int.toNat x) ([] : List Int))) : Int) ∧ (0 : Int) ≤ x_1 ∧ x_1 < (↑(List.length (Prod.fst r)) : Int) ∧ I (decide (Prod.snd (List.getD (List.getD (Prod.fst r_4) (Int.toNat x) ([] : List (Int × Int))) (Int.toNat x_1) ((0 : Int), (0 : Int))) > IntKind.wrap IntKind.i64 (List.getD (List.getD (Prod.fst r_1) (Int.toNat x) ([] : List Int)) (Int.toNat x_1) (0 : Int) + List.getD (Prod.fst r) (Int.toNat x_1) (0 : Int))))))) (cnd (decide (x_1 = (↑((0 : Nat) + (1 : Nat)) : Int))) ((0 : Int) ≤ x ∧ x < (↑(List.length (Prod.fst r_4)) : Int) ∧ (0 : Int) ≤ x_1 ∧ x_1 < (↑(List.length (List.getD (Prod.fst r_4) (Int.toNat x) ([] : List (Int × Int)))) : Int) ∧ ∃ (r_14 : Bool), (f49_wp (Prod.snd (List.getD (Prod.fst (Prod.snd r_1)) (Int.toNat x) ((0 : Int), (0 : Int))), (Prod.fst (List.getD (List.getD (Prod.fst r_4) (Int.toNat x) ([] : List (Int × Int))) (Int.toNat x_1) ((0 : Int), (0 : Int))), Prod.snd (List.getD (List.getD (Prod.fst r_4) (Int.toNat x) ([] : List (Int × Int))) (Int.toNat x_1) ((0 : Int), (0 : Int)))), ()) () fun (r' : Bool) ↦ r' = r_14) ∧ cnd (!r_14) (I true) ((0 : Int) ≤ x ∧ x < (↑(List.length (Prod.fst r_4)) : Int) ∧ (0 : Int) ≤ x_1 ∧ x_1 < (↑(List.length (List.getD (Prod.fst r_4) (Int.toNat x) ([] : List (Int × Int)))) : Int) ∧ (0 : Int) ≤ x ∧ x < (↑(List.length (Prod.fst r_1)) : Int) ∧ (0 : Int) ≤ x_1 ∧ x_1 < (↑(List.length (List.getD (Prod.fst r_1) (Int.toNat x) ([] : List Int))) : Int) ∧ (0 : Int) ≤ x_1 ∧ x_1 < (↑(List.length (Prod.fst r)) : Int) ∧ cnd (decide (Prod.fst (List.getD (List.getD (Prod.fst r_4) (Int.toNat x) ([] : List (Int × Int))) (Int.toNat x_1) ((0 : Int), (0 : Int))) < IntKind.wrap IntKind.i64 (List.getD (List.getD (Prod.fst r_1) (Int.toNat x) ([] : List Int)) (Int.toNat x_1) (0 : Int) - List.getD (Prod.fst r) (Int.toNat x_1) (0 : Int)))) (I true) ((0 : Int) ≤ x ∧ x < (↑(List.length (Prod.fst r_4)) : Int) ∧ (0 : Int) ≤ x_1 ∧ x_1 < (↑(List.length (List.getD (Prod.fst r_4) (Int.toNat x) ([] : List (Int × Int)))) : Int) ∧ (0 : Int) ≤ x ∧ x < (↑(List.length (Prod.fst r_1)) : Int) ∧ (0 : Int) ≤ x_1 ∧ x_1 < (↑(List.length (List.getD (Prod.fst r_1) (Int.toNat x) ([] : List Int))) : Int) ∧ (0 : Int) ≤ x_1 ∧ x_1 < (↑(List.length (Prod.fst r)) : Int) ∧ I (decide (Prod.snd (List.getD (List.getD (Prod.fst r_4) (Int.toNat x) ([] : List (Int × Int))) (Int.toNat x_1) ((0 : Int), (0 : Int))) > IntKind.wrap IntKind.i64 (List.getD (List.getD (Prod.fst r_1) (Int.toNat x) ([] : List Int)) (Int.toNat x_1) (0 : Int) + List.getD (Prod.fst r) (Int.toNat x_1) (0 : Int))))))) False))) ∧ ∀ (x : Bool), I x → cnd x (Q false) (I_1 (IntKind.wrap IntKind.i64 (x_1 + (1 : Int))) ∧ μ_1 (IntKind.wrap IntKind.i64 (x_1 + (1 : Int))) < μ_1 x_1)) (I (IntKind.wrap IntKind.i64 (x + (1 : Int))) ∧ μ (IntKind.wrap IntKind.i64 (x + (1 : Int))) < μ x)) (∃ (I : Int → Prop), ∃ (μ : Int → Nat), I (0 : Int) ∧ ∀ (x : Int), I x → List.length (Prod.fst r_13) ≤ (9223372036854775807 : Nat) → cnd (decide (x < (↑(List.length (Prod.fst r_13)) : Int))) (∃ (I_1 : Bool → Prop), ((0 : Int) ≤ x ∧ x < (↑(List.length (Prod.fst r_13)) : Int) ∧ cnd (decide (List.getD (Prod.fst r_13) (Int.toNat x) (0 : Int) < (0 : Int))) (I_1 true) ((0 : Int) ≤ x ∧ x < (↑(List.length (Prod.fst r_13)) : Int) ∧ (List.length (List.map (fun (x : List Int) ↦ x) (Prod.fst r_1)) ≤ (9223372036854775807 : Nat) → cnd (decide (List.getD (Prod.fst r_13) (Int.toNat x) (0 : Int) ≥ (↑(List.length (List.map (fun (x : List Int) ↦ x) (Prod.fst r_1))) : Int))) (I_1 true) ((0 : Int) ≤ x ∧ x < (↑(List.length (Prod.fst r_13)) : Int) ∧ (0 : Int) ≤ List.getD (Prod.fst r_13) (Int.toNat x) (0 : Int) ∧ List.getD (Prod.fst r_13) (Int.toNat x) (0 : Int) < (↑(List.length (Prod.fst (Prod.snd r_10))) : Int) ∧ I_1 (List.getD (Prod.fst (Prod.snd r_10)) (Int.toNat (List.getD (Prod.fst r_13) (Int.toNat x) (0 : Int))) (0 : Int) != (-1 : Int)))))) ∧ ∀ (x_1 : Bool), I_1 x_1 → cnd x_1 (Q false) (I (IntKind.wrap IntKind.i64 (x + (1 : Int))) ∧ μ (IntKind.wrap IntKind.i64 (x + (1 : Int))) < μ x)) (f18_wp () () fun (r : Bool) ↦ Q r))))
theorem v16 (x : (Int × Int × Int × Int) × (Int × Int) × List (Int × Int × Int × Int)) (Q : Bool → Prop) : V16 x Q = vcFunc (S0 [(45, f45_ct), (52, f52_ct), (47, f47_ct), (48, f48o_ct), (58, f58_ct), (53, f53_ct), (37, f37_ct), (41, f41_ct), (54, f54_ct), (60, f60_ct), (56, f56_ct), (49, f49_ct), (18, f18_ct)] []) f16_ct.own f16_ct.fresh f16_an Tryd.f16 (bodyOf Tryd.f16) f16_ct.A f16_ct.C f16_ct.R x () Q := by kernel_rfl

end Go.Proofs.Tw
set_option linter.unusedVariables false
set_option maxRecDepth 100000
namespace Go.Proofs.Tw
open Go Go.GX Go.Proofs

end Go.Proofs.Tw
set_option linter.unusedVariables false
set_option maxRecDepth 100000
namespace Go.Proofs.Tw
open Go Go.GX Go.Proofs

end Go.Proofs.Tw
set_option linter.unusedVariables false
namespace Go.Proofs.Tw
open Go Go.GX Go.Proofs
theorem chase_stop {l : List Int} {a : Int} {k : Nat} (h : chaseF l k a < 0) : ∀ j, chaseF l (k + j) a = chaseF l k a
  | 0 => rfl
  | j + 1 => by
    show (if 0 ≤ chaseF l (k + j) a then l.getD (chaseF l (k + j) a).toNat 0 else chaseF l (k + j) a) = _
    rw [chase_stop h j, if_neg (by omega)]
theorem hasF_snoc (l : List Int) (a b : Int) : hasF (l ++ [a]) b = (hasF l b || b == a) := by simp [hasF]
theorem hasF_nil (b : Int) : hasF [] b = false := rfl

inductive OrdP (f : Fam) : List Int → Prop
  | nil : OrdP f []
  | snoc {l : List Int} {n : Nat} : OrdP f l → n < f.length → hasF l n = false → (f.getD n 0 = -1 ∨ hasF l (f.getD n 0) = true) → OrdP f (l ++ [(n : Int)])
theorem ordP_step {f : Fam} {l : List Int} (h : OrdP f l) {n : Nat} (hn : n < f.length) : OrdP f (orderStep f l n) := by
  unfold orderStep
  split
  · rename_i hc
    simp only [Bool.and_eq_true, Bool.or_eq_true, Bool.not_eq_true', beq_iff_eq] at hc
    exact .snoc h hn hc.1 hc.2
  · exact h
theorem ordP_fold {f : Fam} : ∀ (ns : List Nat) {l : List Int}, OrdP f l → (∀ n, n ∈ ns → n < f.length) → OrdP f (ns.foldl (orderStep f) l)
  | [], _, h, _ => h
  | n :: ns, l, h, hn => ordP_fold ns (ordP_step h (hn n (List.mem_cons_self ..))) fun m hm => hn m (List.mem_cons_of_mem _ hm)
theorem ordP_N (f : Fam) : ∀ k, OrdP f (orderN f k)
  | 0 => .nil
  | k + 1 => ordP_fold _ (ordP_N f k) fun n hn => List.mem_range.1 hn
theorem countP_or (p : Nat → Bool) (n : Nat) (hp : p n = false) : ∀ N, (List.range N).countP (fun i => p i || decide (i = n)) = (List.range N).countP p + if n < N then 1 else 0
  | 0 => rfl
  | N + 1 => by
    rw [List.range_succ, List.countP_append, List.countP_append, countP_or p n hp N]
    by_cases h : N = n
    · subst h
      simp [hp]
    · by_cases h2 : n < N
      · have e : decide (N = n) = false := decide_eq_false h
        rw [if_pos h2, if_pos (by omega)]
        simp [e]; omega
      · have e : decide (N = n) = false := decide_eq_false h
        rw [if_neg h2, if_neg (by omega)]
        simp [e]
theorem ordP_cnt {f : Fam} {l : List Int} (h : OrdP f l) : ((List.range f.length).countP fun i : Nat => hasF l i) = l.length := by
  induction h with
  | nil => simp [hasF_nil]
  | @snoc l n _ hn hf _ ih =>
    have e : (fun i : Nat => hasF (l ++ [(n : Int)]) i) = fun i : Nat => hasF l i || decide (i = n) := by
      funext i
      rw [hasF_snoc]
      congr 1
      rw [Bool.eq_iff_iff]; simp; omega
    rw [e, countP_or (fun i : Nat => hasF l i) n hf, ih, if_pos hn]; simp
theorem ordP_all {f : Fam} {l : List Int} (h : OrdP f l) : l.length = f.length ↔ ∀ i : Nat, i < f.length → hasF l i = true := by
  rw [← ordP_cnt h]
  have := List.countP_eq_length (p := fun i : Nat => hasF l i) (l := List.range f.length)
  rw [List.length_range] at this
  rw [this]
  exact ⟨fun h i hi => h i (List.mem_range.2 hi), fun h i hi => h i (List.mem_range.1 hi)⟩
theorem chase_shift (f : List Int) (a : Int) : ∀ k, chaseF f (k + 1) a = chaseF f k (if 0 ≤ a then f.getD a.toNat 0 else a)
  | 0 => rfl
  | k + 1 => by
    show (if 0 ≤ chaseF f (k + 1) a then f.getD (chaseF f (k + 1) a).toNat 0 else chaseF f (k + 1) a) = _
    rw [chase_shift f a k]; rfl
theorem chase_neg {f : List Int} {a : Int} (h : a < 0) : ∀ k, chaseF f k a = a
  | 0 => rfl
  | k + 1 => by rw [chase_shift, if_neg (by omega), chase_neg h k]
theorem ordP_chase {f : Fam} {l : List Int} (h : OrdP f l) : ∀ x, hasF l x = true → chaseF f l.length x < 0 ∧ 0 ≤ x ∧ x < f.length := by
  induction h with
  | nil => intro x hx; cases hx
  | @snoc l n hl hn hf hp ih =>
    intro x hx
    rw [hasF_snoc, Bool.or_eq_true] at hx
    have len : (l ++ [(n : Int)]).length = l.length + 1 := by simp
    rw [len]
    rcases hx with hx | hx
    · obtain ⟨h1, h2, h3⟩ := ih x hx
      refine ⟨?_, h2, h3⟩
      rw [chase_stop h1 1]; exact h1
    · have hx : x = n := by simpa using hx
      subst hx
      refine ⟨?_, by omega, by omega⟩
      rw [chase_shift, if_pos (by omega), Int.toNat_natCast]
      rcases hp with hp | hp
      · rw [hp, chase_neg (by omega)]; omega
      · exact (ih _ hp).1
theorem has_step {f : Fam} {l : List Int} {x : Int} (h : hasF l x = true) (n : Nat) : hasF (orderStep f l n) x = true := by
  unfold orderStep
  split
  · rw [hasF_snoc, h]; rfl
  · exact h
theorem has_fold {f : Fam} {x : Int} : ∀ (ns : List Nat) {l : List Int}, hasF l x = true → hasF (ns.foldl (orderStep f) l) x = true
  | [], _, h => h
  | n :: ns, l, h => has_fold ns (has_step h n)
theorem has_new {f : Fam} {i : Nat} : ∀ (ns : List Nat) {l : List Int}, i ∈ ns → (f.getD i 0 = -1 ∨ hasF l (f.getD i 0) = true) → hasF (ns.foldl (orderStep f) l) i = true
  | n :: ns, l, hi, hp => by
    rcases List.mem_cons.1 hi with rfl | hi
    · refine has_fold ns ?_
      unfold orderStep
      split
      · rw [hasF_snoc]; simp
      · rename_i hc
        cases hh : hasF l i
        · refine absurd ?_ hc
          rw [hh]
          simp only [Bool.not_false, Bool.true_and, Bool.or_eq_true, beq_iff_eq]
          exact hp
        · rfl
    · exact has_new ns hi (hp.imp_right fun h => has_step h n)
theorem has_N {f : Fam} (hr : ∀ i, i < f.length → -1 ≤ f.getD i 0 ∧ f.getD i 0 < f.length) : ∀ k (i : Nat), i < f.length → chaseF f k i < 0 → hasF (orderN f k) i = true
  | 0, i, _, h => by have h : (i : Int) < 0 := h; omega
  | k + 1, i, hi, h => by
    rw [chase_shift, if_pos (by omega), Int.toNat_natCast] at h
    have hri := hr i hi
    refine has_new _ (List.mem_range.2 hi) ?_
    by_cases hp : f.getD i 0 < 0
    · exact .inl (by omega)
    · obtain ⟨o, ho⟩ : ∃ o : Nat, f.getD i 0 = o := ⟨(f.getD i 0).toNat, by omega⟩
      rw [ho] at h hri ⊢
      exact .inr (has_N hr k o (by omega) h)
theorem okOrd_iff {f : Fam} (hr : ∀ i, i < f.length → -1 ≤ f.getD i 0 ∧ f.getD i 0 < f.length) : okOrd f = (List.range f.length).all fun i => decide (chaseF f f.length i < 0) := by
  rw [Bool.eq_iff_iff]
  unfold okOrd
  rw [decide_eq_true_eq, List.all_eq_true]
  have ho := ordP_N f f.length
  constructor
  · intro hl i hi
    have hall := (ordP_all ho).1 hl i (List.mem_range.1 hi)
    have := (ordP_chase ho i hall).1
    have e : (orderN f f.length).length = f.length := hl
    rw [e] at this
    exact decide_eq_true this
  · intro hc
    exact (ordP_all ho).2 fun i hi => has_N hr _ i hi (of_decide_eq_true (hc i (List.mem_range.2 hi)))
theorem inB_rng {f : List Int} {n : Nat} (hl : f.length = n) (h : f.all (inB (-1) ((n : Int) - 1)) = true) : ∀ i, i < f.length → -1 ≤ f.getD i 0 ∧ f.getD i 0 < f.length := by
  intro i hi
  have := List.all_eq_true.1 h _ (getD_mem (d := 0) hi)
  unfold inB at this
  simp only [Bool.and_eq_true, decide_eq_true_eq] at this
  omega
theorem fam_of {fs : Fans} {f : Fam} (h : isFamF f fs.length = true) : FamD fs f ∧ FOK fs f ∧ OrdP f (orderF f) ∧ ∀ i : Nat, i < f.length → hasF (orderF f) i = true := by
  unfold isFamF at h
  simp only [Bool.and_eq_true, decide_eq_true_eq] at h
  obtain ⟨⟨hl, hb⟩, ho⟩ := h
  have hr := inB_rng hl hb
  have hP := ordP_N f f.length
  have hoo : (orderF f).length = f.length := by unfold okOrd at ho; exact of_decide_eq_true ho
  refine ⟨⟨hl, fun i hi => ⟨(hr i hi).1, (hr i hi).2, fun e => ?_⟩⟩, ⟨hl, fun x hx => ?_⟩, hP, (ordP_all hP).1 hoo⟩
  · have hc := okOrd_iff hr
    rw [ho] at hc
    have hc := of_decide_eq_true (List.all_eq_true.1 hc.symm i (List.mem_range.2 hi))
    have : ∀ k, chaseF f k i = i := by
      intro k
      induction k with
      | zero => rfl
      | succ k ih => rw [chase_shift, if_pos (by omega), Int.toNat_natCast, e, ih]
    rw [this] at hc; omega
  · obtain ⟨j, hj, rfl⟩ := List.mem_iff_getElem.1 hx
    have := hr j hj
    rwa [getD_lt hj] at this
end Go.Proofs.Tw
set_option linter.unusedVariables false
namespace Go.Proofs.Tw
open Go Go.GX Go.Proofs
def Sol (c : Span) (f : Fam) (x : Nat → Int) : Prop := ∀ i, i < f.length → f.getD i 0 ≠ -1 → c.1 ≤ x i - x (f.getD i 0).toNat ∧ x i - x (f.getD i 0).toNat ≤ c.2
def InS (st : List Span) (x : Nat → Int) : Prop := ∀ i, i < st.length → (st.getD i (0, 0)).1 ≤ x i ∧ x i ≤ (st.getD i (0, 0)).2
theorem getDset4 {α : Type} (l : List α) (i : Nat) (v : α) (j : Nat) (d : α) (hi : i < l.length) : (l.set i v).getD j d = if j = i then v else l.getD j d := by
  rw [List.getD_eq_getElem?_getD, List.getElem?_set]
  by_cases h : i = j
  · subst h; rw [if_pos rfl, if_pos hi, if_pos rfl]; rfl
  · rw [if_neg h, if_neg (fun e => h e.symm), List.getD_eq_getElem?_getD]
theorem bstep_len (c : Span) (f : Fam) (st : List Span) (n : Nat) : (backStep c f st n).length = st.length := by
  unfold backStep; split <;> simp
theorem fstep_len (c : Span) (f : Fam) (st : List Span) (n : Int) : (fwdStep c f st n).length = st.length := by
  unfold fwdStep; split <;> simp
theorem back_get {c : Span} {f : Fam} {st : List Span} {n : Nat} (hr : ∀ i, i < f.length → -1 ≤ f.getD i 0 ∧ f.getD i 0 < f.length) (hs : st.length = f.length) (hn : n < f.length) (j : Nat) :
    (backStep c f st n).getD j (0, 0) = if f.getD n 0 ≠ -1 ∧ j = (f.getD n 0).toNat then meetF (st.getD j (0, 0)) ((st.getD n (0, 0)).1 - c.2, (st.getD n (0, 0)).2 - c.1) else st.getD j (0, 0) := by
  have := hr n hn
  unfold backStep
  split
  · rename_i h
    rw [getDset4 _ _ _ _ _ (by omega)]
    by_cases hj : j = (f.getD n 0).toNat
    · rw [if_pos hj, if_pos ⟨h, hj⟩, hj]
    · rw [if_neg hj, if_neg (fun e => hj e.2)]
  · rename_i h
    rw [if_neg (fun e => h e.1)]
theorem fwd_get {c : Span} {f : Fam} {st : List Span} {n : Nat} (hs : st.length = f.length) (hn : n < f.length) (j : Nat) :
    (fwdStep c f st n).getD j (0, 0) = if f.getD n 0 ≠ -1 ∧ j = n then meetF (st.getD n (0, 0)) ((st.getD (f.getD n 0).toNat (0, 0)).1 + c.1, (st.getD (f.getD n 0).toNat (0, 0)).2 + c.2) else st.getD j (0, 0) := by
  unfold fwdStep
  rw [Int.toNat_natCast]
  split
  · rename_i h
    rw [getDset4 _ _ _ _ _ (by omega)]
    by_cases hj : j = n
    · rw [if_pos hj, if_pos ⟨h, hj⟩]
    · rw [if_neg hj, if_neg (fun e => hj e.2)]
  · rename_i h
    rw [if_neg (fun e => h e.1)]
theorem meet_in {a b : Span} {x : Int} (h1 : a.1 ≤ x ∧ x ≤ a.2) (h2 : b.1 ≤ x ∧ x ≤ b.2) : (meetF a b).1 ≤ x ∧ x ≤ (meetF a b).2 := by
  have h3 := mx_cases a.1 b.1
  have h4 := mn_cases a.2 b.2
  show mxI a.1 b.1 ≤ x ∧ x ≤ mnI a.2 b.2
  omega
section
variable {c : Span} {f : Fam} {x : Nat → Int}
theorem back_in (hr : ∀ i, i < f.length → -1 ≤ f.getD i 0 ∧ f.getD i 0 < f.length) (hx : Sol c f x) {st : List Span} (hs : st.length = f.length) (h : InS st x) {n : Nat} (hn : n < f.length) : InS (backStep c f st n) x := by
  intro i hi
  rw [bstep_len] at hi
  rw [back_get hr hs hn]
  split
  · rename_i hc
    have h1 := h i hi
    have h2 := h n (by omega)
    have h3 := hx n hn hc.1
    rw [← hc.2] at h3
    exact meet_in h1 (by show (st.getD n (0, 0)).1 - c.2 ≤ x i ∧ x i ≤ (st.getD n (0, 0)).2 - c.1; omega)
  · exact h i hi
theorem fwd_in (hr : ∀ i, i < f.length → -1 ≤ f.getD i 0 ∧ f.getD i 0 < f.length) (hx : Sol c f x) {st : List Span} (hs : st.length = f.length) (h : InS st x) {n : Nat} (hn : n < f.length) : InS (fwdStep c f st n) x := by
  intro i hi
  rw [fstep_len] at hi
  rw [fwd_get hs hn]
  split
  · rename_i hc
    have hrn := hr n hn
    have h1 := h n (by omega)
    have h2 := h (f.getD n 0).toNat (by omega)
    have h3 := hx n hn hc.1
    rw [hc.2]
    exact meet_in h1 (by show (st.getD (f.getD n 0).toNat (0, 0)).1 + c.1 ≤ x n ∧ x n ≤ (st.getD (f.getD n 0).toNat (0, 0)).2 + c.2; omega)
  · exact h i hi
theorem backAll_in (hr : ∀ i, i < f.length → -1 ≤ f.getD i 0 ∧ f.getD i 0 < f.length) (hx : Sol c f x) : ∀ (ns : List Int), (∀ y, y ∈ ns → 0 ≤ y ∧ y < f.length) → ∀ st : List Span, st.length = f.length → InS st x →
    ∃ up, backAll c f ns st = some up ∧ InS up x ∧ up.length = f.length
  | [], _, st, hs, h => ⟨st, rfl, h, hs⟩
  | y :: ns, hy, st, hs, h => by
    have hy0 := hy y (List.mem_cons_self ..)
    have h0 := h y.toNat (by omega)
    have ok : okSp (st.getD y.toNat (0, 0)) = true := by unfold okSp; exact decide_eq_true (by omega)
    obtain ⟨up, e, hu⟩ := backAll_in hr hx ns (fun z hz => hy z (List.mem_cons_of_mem _ hz)) (backStep c f st y.toNat) (by rw [bstep_len, hs]) (back_in hr hx hs h (by omega))
    refine ⟨up, ?_, hu⟩
    show (if okSp (st.getD y.toNat (0, 0)) then backAll c f ns (backStep c f st y.toNat) else none) = some up
    rw [if_pos ok, e]
theorem fwdAll_in (hr : ∀ i, i < f.length → -1 ≤ f.getD i 0 ∧ f.getD i 0 < f.length) (hx : Sol c f x) : ∀ (ns : List Int), (∀ y, y ∈ ns → 0 ≤ y ∧ y < f.length) → ∀ st : List Span, st.length = f.length → InS st x →
    InS (ns.foldl (fwdStep c f) st) x ∧ (ns.foldl (fwdStep c f) st).length = f.length
  | [], _, st, hs, h => ⟨h, hs⟩
  | y :: ns, hy, st, hs, h => by
    obtain ⟨n, rfl⟩ : ∃ n : Nat, y = n := ⟨y.toNat, by have := hy y (List.mem_cons_self ..); omega⟩
    have hy0 := hy n (List.mem_cons_self ..)
    exact fwdAll_in hr hx ns (fun z hz => hy z (List.mem_cons_of_mem _ hz)) (fwdStep c f st n) (by rw [fstep_len, hs]) (fwd_in hr hx hs h (by omega))

theorem back_props (hr : ∀ i, i < f.length → -1 ≤ f.getD i 0 ∧ f.getD i 0 < f.length) {l : List Int} (h : OrdP f l) : ∀ st up : List Span, st.length = f.length → backAll c f l.reverse st = some up →
    up.length = f.length ∧ (∀ i : Nat, hasF l i = false → up.getD i (0, 0) = st.getD i (0, 0)) ∧ (∀ i : Nat, (st.getD i (0, 0)).1 ≤ (up.getD i (0, 0)).1 ∧ (up.getD i (0, 0)).2 ≤ (st.getD i (0, 0)).2) ∧
    (∀ i : Nat, hasF l i = true → (up.getD i (0, 0)).1 ≤ (up.getD i (0, 0)).2 ∧ (f.getD i 0 ≠ -1 → (up.getD i (0, 0)).1 - c.2 ≤ (up.getD (f.getD i 0).toNat (0, 0)).1 ∧ (up.getD (f.getD i 0).toNat (0, 0)).2 ≤ (up.getD i (0, 0)).2 - c.1)) := by
  induction h with
  | nil =>
    intro st up hs hb
    obtain rfl := Option.some.inj hb
    exact ⟨hs, fun _ _ => rfl, fun i => ⟨Int.le_refl _, Int.le_refl _⟩, fun i hi => by cases hi⟩
  | @snoc l n hl hn hf hp ih =>
    intro st up hs hb
    rw [List.reverse_append] at hb
    have hb : (if okSp (st.getD ((n : Int).toNat) (0, 0)) then backAll c f l.reverse (backStep c f st (n : Int).toNat) else none) = some up := hb
    rw [Int.toNat_natCast] at hb
    have hrn := hr n hn
    cases hok : okSp (st.getD n (0, 0))
    · rw [hok] at hb; cases hb
    rw [hok, if_pos rfl] at hb
    have hok : (st.getD n (0, 0)).1 ≤ (st.getD n (0, 0)).2 := by unfold okSp at hok; exact of_decide_eq_true hok
    obtain ⟨u1, u2, u3, u4⟩ := ih (backStep c f st n) up (by rw [bstep_len, hs]) hb
    have bg := back_get (c := c) hr hs hn
    have pIn : f.getD n 0 ≠ -1 → hasF l (f.getD n 0) = true := fun h => hp.resolve_left h
    have keep : ∀ i : Nat, hasF l i = false → (backStep c f st n).getD i (0, 0) = st.getD i (0, 0) := by
      intro i hi
      rw [bg i, if_neg]
      rintro ⟨h1, rfl⟩
      have := pIn h1
      rw [show (((f.getD n 0).toNat : Nat) : Int) = f.getD n 0 by omega] at hi
      rw [this] at hi; cases hi
    have un : up.getD n (0, 0) = st.getD n (0, 0) := (u2 n hf).trans (keep n hf)
    refine ⟨u1, fun i hi => ?_, fun i => ?_, fun i hi => ?_⟩
    · rw [hasF_snoc, Bool.or_eq_false_iff] at hi
      exact (u2 i hi.1).trans (keep i hi.1)
    · have h1 := u3 i
      rw [bg i] at h1
      split at h1
      · have h3 := mx_cases (st.getD i (0, 0)).1 ((st.getD n (0, 0)).1 - c.2)
        have h4 := mn_cases (st.getD i (0, 0)).2 ((st.getD n (0, 0)).2 - c.1)
        have h1 : mxI (st.getD i (0, 0)).1 ((st.getD n (0, 0)).1 - c.2) ≤ _ ∧ _ ≤ mnI (st.getD i (0, 0)).2 ((st.getD n (0, 0)).2 - c.1) := h1
        omega
      · exact h1
    · rw [hasF_snoc, Bool.or_eq_true] at hi
      rcases hi with hi | hi
      · exact u4 i hi
      · obtain rfl : i = n := by have : (i : Int) = n := by simpa using hi
                                 omega
        rw [un]
        refine ⟨hok, fun hne => ?_⟩
        have h1 := u3 (f.getD i 0).toNat
        rw [bg, if_pos ⟨hne, rfl⟩] at h1
        have h3 := mx_cases (st.getD (f.getD i 0).toNat (0, 0)).1 ((st.getD i (0, 0)).1 - c.2)
        have h4 := mn_cases (st.getD (f.getD i 0).toNat (0, 0)).2 ((st.getD i (0, 0)).2 - c.1)
        have h1 : mxI (st.getD (f.getD i 0).toNat (0, 0)).1 ((st.getD i (0, 0)).1 - c.2) ≤ _ ∧ _ ≤ mnI (st.getD (f.getD i 0).toNat (0, 0)).2 ((st.getD i (0, 0)).2 - c.1) := h1
        omega
theorem ordP_par {f : Fam} {l : List Int} (h : OrdP f l) : ∀ i : Nat, hasF l i = true → f.getD i 0 ≠ -1 → hasF l (f.getD i 0) = true := by
  induction h with
  | nil => intro i hi; cases hi
  | @snoc l n hl hn hf hp ih =>
    intro i hi h1
    rw [hasF_snoc, Bool.or_eq_true] at hi ⊢
    rcases hi with hi | hi
    · exact .inl (ih i hi h1)
    · obtain rfl : i = n := by have : (i : Int) = n := by simpa using hi
                               omega
      exact .inl (hp.resolve_left h1)

theorem fwd_props {l : List Int} (h : OrdP f l) : ∀ up : List Span, up.length = f.length →
    (l.foldl (fwdStep c f) up).length = f.length ∧ (∀ i : Nat, hasF l i = false → (l.foldl (fwdStep c f) up).getD i (0, 0) = up.getD i (0, 0)) ∧
    (∀ i : Nat, hasF l i = true → (f.getD i 0 = -1 → (l.foldl (fwdStep c f) up).getD i (0, 0) = up.getD i (0, 0)) ∧
      (f.getD i 0 ≠ -1 → (l.foldl (fwdStep c f) up).getD i (0, 0) = meetF (up.getD i (0, 0)) (((l.foldl (fwdStep c f) up).getD (f.getD i 0).toNat (0, 0)).1 + c.1, ((l.foldl (fwdStep c f) up).getD (f.getD i 0).toNat (0, 0)).2 + c.2))) := by
  intro up hu
  induction h with
  | nil => exact ⟨hu, fun _ _ => rfl, fun i hi => by cases hi⟩
  | @snoc l n hl hn hf hp ih =>
    obtain ⟨a1, a2, a3⟩ := ih
    rw [List.foldl_append]
    show (fwdStep c f (l.foldl (fwdStep c f) up) n).length = _ ∧ _
    have fg := fwd_get (c := c) (n := n) a1 hn
    have unm := a2 n hf
    generalize l.foldl (fwdStep c f) up = F at *
    have same : ∀ i : Nat, i ≠ n → (fwdStep c f F n).getD i (0, 0) = F.getD i (0, 0) := fun i hi => by rw [fg i, if_neg (fun e => hi e.2)]
    refine ⟨by rw [fstep_len, a1], fun i hi => ?_, fun i hi => ?_⟩
    · rw [hasF_snoc, Bool.or_eq_false_iff] at hi
      have : i ≠ n := by rintro rfl; simp at hi
      exact (same i this).trans (a2 i hi.1)
    · show (_ → (fwdStep c f F n).getD i (0, 0) = _) ∧ (_ → (fwdStep c f F n).getD i (0, 0) = meetF (up.getD i (0, 0)) (((fwdStep c f F n).getD (f.getD i 0).toNat (0, 0)).1 + c.1, ((fwdStep c f F n).getD (f.getD i 0).toNat (0, 0)).2 + c.2))
      rw [hasF_snoc, Bool.or_eq_true] at hi
      by_cases hin : i = n
      · subst hin
        refine ⟨fun h1 => ?_, fun h1 => ?_⟩
        · rw [fg i, if_neg (fun e => e.1 h1), unm]
        · have hpl := hp.resolve_left h1
          have hrng := ordP_chase hl _ hpl
          have hpn : (f.getD i 0).toNat ≠ i := by
            intro e
            rw [show f.getD i 0 = (i : Int) by omega] at hpl
            rw [hpl] at hf; cases hf
          rw [same _ hpn, fg i, if_pos ⟨h1, rfl⟩, unm]
      · have hil : hasF l i = true := by
          rcases hi with hi | hi
          · exact hi
          · exact absurd (by have : (i : Int) = n := by simpa using hi
                             omega) hin
        obtain ⟨b1, b2⟩ := a3 i hil
        rw [same i hin]
        refine ⟨b1, fun h1 => ?_⟩
        have hne : (f.getD i 0).toNat ≠ n := by
          intro e
          have hc := ordP_par hl i hil h1
          have hrng := ordP_chase hl _ hc
          rw [show f.getD i 0 = (n : Int) by omega] at hc
          rw [hc] at hf; cases hf
        rw [same _ hne]
        exact b2 h1
end
end Go.Proofs.Tw
set_option linter.unusedVariables false
namespace Go.Proofs.Tw
open Go Go.GX Go.Proofs
theorem mem_has {l : List Int} {y : Int} (h : y ∈ l) : hasF l y = true := by
  unfold hasF; rw [List.any_eq_true]; exact ⟨y, h, by simp⟩
theorem startF_len (g : Gauge) (fs : Fans) (m : Nat) (wrong : List Int) (k : Nat) : (startF g fs m wrong k).length = k := by simp [startF]
theorem startF_get (g : Gauge) (fs : Fans) (m : Nat) (wrong : List Int) {k i : Nat} (h : i < k) : (startF g fs m wrong k).getD i (0, 0) = if hasF wrong i then anything else trulyF g fs m i := map_range_getD _ _ _ _ h
section
variable {g : Gauge} {fs : Fans} {f : Fam} {m : Nat} {wrong : List Int} {x : Nat → Int}
theorem truth_sound (hf : isFamF f fs.length = true) (hx : Sol (g.2.2.getD m (0, 0)) f x) (hs : InS (startF g fs m wrong f.length) x) :
    ∃ fin, truthF g fs m f wrong = some fin ∧ InS fin x ∧ fin.length = f.length := by
  obtain ⟨fd, fo, ho, hall⟩ := fam_of hf
  have hr : ∀ i, i < f.length → -1 ≤ f.getD i 0 ∧ f.getD i 0 < f.length := fun i hi => ⟨(fd.rng i hi).1, (fd.rng i hi).2.1⟩
  have hy : ∀ y, y ∈ orderF f → 0 ≤ y ∧ y < f.length := fun y hy => (ordP_chase ho y (mem_has hy)).2
  obtain ⟨up, e, hu, hl⟩ := backAll_in hr hx (orderF f).reverse (fun y h => hy y (List.mem_reverse.1 h)) _ (startF_len ..) hs
  obtain ⟨h1, h2⟩ := fwdAll_in hr hx (orderF f) hy up hl hu
  refine ⟨_, ?_, h1, h2⟩
  unfold truthF
  rw [e]; rfl
theorem truth_complete (hc : (g.2.2.getD m (0, 0)).1 ≤ (g.2.2.getD m (0, 0)).2) (hf : isFamF f fs.length = true) {fin : List Span} (ht : truthF g fs m f wrong = some fin) :
    fin.length = f.length ∧ (Sol (g.2.2.getD m (0, 0)) f fun i => (fin.getD i (0, 0)).2) ∧ (InS (startF g fs m wrong f.length) fun i => (fin.getD i (0, 0)).2) ∧
    (Sol (g.2.2.getD m (0, 0)) f fun i => (fin.getD i (0, 0)).1) ∧ (InS (startF g fs m wrong f.length) fun i => (fin.getD i (0, 0)).1) := by
  obtain ⟨fd, fo, ho, hall⟩ := fam_of hf
  have hr : ∀ i, i < f.length → -1 ≤ f.getD i 0 ∧ f.getD i 0 < f.length := fun i hi => ⟨(fd.rng i hi).1, (fd.rng i hi).2.1⟩
  unfold truthF at ht
  generalize g.2.2.getD m (0, 0) = c at *
  cases hb : backAll c f (orderF f).reverse (startF g fs m wrong f.length) with
  | none => rw [hb] at ht; cases ht
  | some up =>
    rw [hb] at ht
    have ht := Option.some.inj ht
    obtain ⟨u1, u2, u3, u4⟩ := back_props hr ho _ _ (startF_len ..) hb
    obtain ⟨w1, w2, w3⟩ := fwd_props (c := c) ho up u1
    have ht : (orderF f).foldl (fwdStep c f) up = fin := ht
    rw [ht] at w1 w2 w3

    have key : ∀ {l : List Int}, OrdP f l → (∀ i : Nat, hasF l i = true → (up.getD i (0, 0)).1 ≤ (fin.getD i (0, 0)).1 ∧ (fin.getD i (0, 0)).2 ≤ (up.getD i (0, 0)).2 ∧ (up.getD i (0, 0)).1 ≤ (fin.getD i (0, 0)).2 ∧ (fin.getD i (0, 0)).1 ≤ (up.getD i (0, 0)).2) := by
      intro l hl
      induction hl with
      | nil => intro i hi; cases hi
      | @snoc l n hl hn hf' hp ih =>
        intro i hi
        rw [hasF_snoc, Bool.or_eq_true] at hi
        rcases hi with hi | hi
        · exact ih i hi
        · obtain rfl : i = n := by have : (i : Int) = n := by simpa using hi
                                   omega
          obtain ⟨k1, k2⟩ := w3 i (hall i hn)
          obtain ⟨k3, k4⟩ := u4 i (hall i hn)
          by_cases h1 : f.getD i 0 = -1
          · rw [k1 h1]; omega
          · have hpl := hp.resolve_left h1
            have hri := ordP_chase hl _ hpl
            have ihp := ih (f.getD i 0).toNat (by rw [show (((f.getD i 0).toNat : Nat) : Int) = f.getD i 0 by omega]; exact hpl)
            have k4 := k4 h1
            rw [k2 h1]
            have m1 := mx_cases (up.getD i (0, 0)).1 ((fin.getD (f.getD i 0).toNat (0, 0)).1 + c.1)
            have m2 := mn_cases (up.getD i (0, 0)).2 ((fin.getD (f.getD i 0).toNat (0, 0)).2 + c.2)
            show _ ≤ mxI (up.getD i (0, 0)).1 ((fin.getD (f.getD i 0).toNat (0, 0)).1 + c.1) ∧ mnI (up.getD i (0, 0)).2 ((fin.getD (f.getD i 0).toNat (0, 0)).2 + c.2) ≤ _ ∧ _ ≤ mnI (up.getD i (0, 0)).2 ((fin.getD (f.getD i 0).toNat (0, 0)).2 + c.2) ∧ mxI (up.getD i (0, 0)).1 ((fin.getD (f.getD i 0).toNat (0, 0)).1 + c.1) ≤ _
            omega
    have K : ∀ i : Nat, i < f.length → _ := fun i hi => key ho i (hall i hi)
    have par : ∀ i, i < f.length → f.getD i 0 ≠ -1 → (f.getD i 0).toNat < f.length := fun i hi h1 => by have := hr i hi; omega
    have mid : ∀ i, i < f.length → f.getD i 0 ≠ -1 →
        (fin.getD i (0, 0)).1 = mxI (up.getD i (0, 0)).1 ((fin.getD (f.getD i 0).toNat (0, 0)).1 + c.1) ∧ (fin.getD i (0, 0)).2 = mnI (up.getD i (0, 0)).2 ((fin.getD (f.getD i 0).toNat (0, 0)).2 + c.2) := by
      intro i hi h1
      rw [(w3 i (hall i hi)).2 h1]; exact ⟨rfl, rfl⟩
    refine ⟨w1, fun i hi h1 => ?_, fun i hi => ?_, fun i hi h1 => ?_, fun i hi => ?_⟩
    · have a := (mid i hi h1).2
      have b := K _ (par i hi h1)
      have d := (u4 i (hall i hi)).2 h1
      have m2 := mn_cases (up.getD i (0, 0)).2 ((fin.getD (f.getD i 0).toNat (0, 0)).2 + c.2)
      simp only
      omega
    · rw [startF_len] at hi
      have a := K i hi
      have b := u3 i
      simp only
      omega
    · have a := (mid i hi h1).1
      have b := K _ (par i hi h1)
      have d := (u4 i (hall i hi)).2 h1
      have m2 := mx_cases (up.getD i (0, 0)).1 ((fin.getD (f.getD i 0).toNat (0, 0)).1 + c.1)
      simp only
      omega
    · rw [startF_len] at hi
      have a := K i hi
      have b := u3 i
      simp only
      omega
end
def Meas (g : Gauge) (fs : Fans) (m : Nat) (wrong : List Int) (x : Nat → Int) : Prop := ∀ i : Nat, i < fs.length → hasF wrong i = false → (fs.getD i []).getD m 0 - g.1.getD m 0 ≤ x i ∧ x i ≤ (fs.getD i []).getD m 0 + g.1.getD m 0
section
variable {g : Gauge} {fs : Fans} {f : Fam} {m : Nat} {wrong : List Int}
theorem meas_in {x : Nat → Int} (fl : f.length = fs.length) (hm : Meas g fs m wrong x) (hb : ∀ i, i < fs.length → -1048576 ≤ x i ∧ x i ≤ 1048576) : InS (startF g fs m wrong f.length) x := by
  intro i hi
  rw [startF_len] at hi
  rw [startF_get g fs m wrong hi]
  cases hw : hasF wrong i
  · exact hm i (by omega) hw
  · exact hb i (by omega)
theorem in_meas {x : Nat → Int} (fl : f.length = fs.length) (h : InS (startF g fs m wrong f.length) x) : Meas g fs m wrong x := by
  intro i hi hw
  have := h i (by rw [startF_len]; omega)
  rw [startF_get g fs m wrong (by omega), hw] at this
  exact this
end
end Go.Proofs.Tw
set_option linter.unusedVariables false
set_option maxRecDepth 100000
namespace Go.Proofs.Tw
open Go Go.GX Go.Proofs

end Go.Proofs.Tw
set_option linter.unusedVariables false
set_option maxRecDepth 100000
namespace Go.Proofs.Tw
open Go Go.GX Go.Proofs

end Go.Proofs.Tw
set_option linter.unusedVariables false
set_option maxRecDepth 100000
namespace Go.Proofs.Tw
open Go Go.GX Go.Proofs

end Go.Proofs.Tw
set_option linter.unusedVariables false
set_option maxRecDepth 100000
namespace Go.Proofs.Tw
open Go Go.GX Go.Proofs

def V4 (g : List Int × List Int × List (Int × Int)) (fs : List (List Int)) (Q : Bool → Prop) : Prop := f17_wp ((Prod.fst g, Prod.fst (Prod.snd g), Prod.snd (Prod.snd g)), fs, ()) () fun (r : Bool) ↦ cnd r (f18_wp () () fun (r : Bool) ↦ Q r) (f19_wp (Prod.fst g, Prod.fst (Prod.snd g), Prod.snd (Prod.snd g)) () fun (r : List Int × List Int × List (Int × Int)) ↦ f20_wp fs () fun (r_1 : List (List Int)) ↦ f28_wp ((Prod.fst r, Prod.fst (Prod.snd r), Prod.snd (Prod.snd r)), r_1, ()) () fun (r_2 : Bool × Bool × Int × Unit) ↦ f29_wp ((Prod.fst r, Prod.fst (Prod.snd r), Prod.snd (Prod.snd r)), r_1, ()) () fun (r_3 : List Int × Int × Unit) ↦ f23_wp ((Prod.fst g, Prod.fst (Prod.snd g), Prod.snd (Prod.snd g)), fs, ()) () fun (r_4 : Int) ↦ f24_wp ((Prod.fst r, Prod.fst (Prod.snd r), Prod.snd (Prod.snd r)), (Prod.fst g, Prod.fst (Prod.snd g), Prod.snd (Prod.snd g)), ()) () fun (r : Bool) ↦ cnd (!r) (Q false) (f25_wp (r_1, fs, ()) () fun (r : Bool) ↦ cnd (!r) (Q false) (cnd (Prod.fst (Prod.snd (Prod.snd r_2)) != r_4) (Q false) (cnd (Prod.fst (Prod.snd r_3) != r_4) (Q false) (cnd (r_4 != (0 : Int)) (cnd (!Prod.fst r_2) (cnd (!Prod.fst (Prod.snd r_2)) (List.length (Prod.fst r_3) ≤ (9223372036854775807 : Nat) → cnd ((↑(List.length (Prod.fst r_3)) : Int) == (0 : Int)) (f18_wp () () fun (r : Bool) ↦ Q r) (Q false)) (Q false)) (Q false)) (f30_wp ((Prod.fst g, Prod.fst (Prod.snd g), Prod.snd (Prod.snd g)), fs, ()) () fun (r : Bool) ↦ cnd (Prod.fst r_2 == r) (f31_wp ((Prod.fst g, Prod.fst (Prod.snd g), Prod.snd (Prod.snd g)), fs, ([] : List Int), ()) () fun (r : Bool) ↦ cnd (Prod.fst (Prod.snd r_2) == r) (f33_wp ((Prod.fst g, Prod.fst (Prod.snd g), Prod.snd (Prod.snd g)), fs, ()) () fun (r : List Int) ↦ f32_wp (Prod.fst r_3, r, ()) () fun (r : Bool) ↦ cnd r (f18_wp () () fun (r : Bool) ↦ Q r) (Q false)) (Q false)) (Q false)))))))
theorem v4 (g : List Int × List Int × List (Int × Int)) (fs : List (List Int)) (Q : Bool → Prop) : V4 g fs Q = vcFunc (S0 [(17, f17_ct), (18, f18_ct), (19, f19_ct), (20, f20_ct), (28, f28_ct), (29, f29_ct), (23, f23_ct), (24, f24_ct), (25, f25_ct), (30, f30_ct), (31, f31_ct), (33, f33_ct), (32, f32_ct)] []) f4_ct.own f4_ct.fresh no_an Tryd.f4 (bodyOf Tryd.f4) f4_ct.A f4_ct.C f4_ct.R (g, fs, ()) () Q := by kernel_rfl

end Go.Proofs.Tw
set_option linter.unusedVariables false
set_option maxRecDepth 100000
namespace Go.Proofs.Tw
open Go Go.GX Go.Proofs

end Go.Proofs.Tw
set_option linter.unusedVariables false
namespace Go.Proofs.Tw
open Go Go.GX Go.Proofs

end Go.Proofs.Tw
set_option linter.unusedVariables false
namespace Go.Proofs.Tw
open Go Go.GX Go.Proofs
theorem p4 {g : Gauge} {fs : Fans} {Q : Bool → Prop} (h : f4_wp (g, fs, ()) () Q) : V4 g fs Q := by
  have h : Q true := h
  show cnd (largeF g fs) (Q true) _
  refine cnd_iff.2 ⟨fun _ => h, fun hl => ?_⟩
  obtain ⟨l1, l2, l3, l4, l5⟩ := large_no hl
  refine ⟨⟨by simp only; omega, by simp only; omega, by simp only; omega⟩, ⟨by omega, fun f hf => by have := l5 f hf; omega⟩, ?_⟩
  show cnd (!decide (g = g)) _ (cnd (!decide (fs = fs)) _ (cnd ((twinsFn g fs).2.2 != checkF g fs) _ (cnd ((mostFn g fs).2 != checkF g fs) _ (cnd (checkF g fs != 0) (cnd (!(twinsFn g fs).1) (cnd (!(twinsFn g fs).2.1) ((mostFn g fs).1.length ≤ _ → cnd (((mostFn g fs).1.length : Int) == 0) (Q true) _) _) _) _))))
  refine cnd_f (by simp) (cnd_f (by simp) ?_)
  by_cases hc : checkF g fs = 0
  · have v := VB.of hc
    have e1 : twinsFn g fs = (surelyF g fs, twinsF g fs (fun _ => true), 0) := by unfold twinsFn; rw [if_neg (by simp [hc])]
    have e2 : mostFn g fs = (mostF g fs, 0) := by unfold mostFn; rw [if_neg (by simp [hc])]
    rw [e1, e2]
    refine cnd_f (by simp [hc]) (cnd_f (by simp [hc]) (cnd_f (by simp [hc]) ⟨v, ?_⟩))
    show cnd (surelyF g fs == surelyR g fs) _ _
    refine cnd_t (by rw [surely_eq v]; simp) ⟨v, ?_⟩
    show cnd (twinsF g fs (fun _ => true) == twinR g fs []) _ _
    refine cnd_t (by rw [twinR_nil v]; simp) ⟨v, ?_⟩
    show cnd (decide (mostF g fs = mostR g fs)) _ _
    exact cnd_t (by rw [most_eq v]; simp) h
  · have e1 : twinsFn g fs = (false, false, checkF g fs) := by unfold twinsFn; rw [if_pos hc]
    have e2 : mostFn g fs = ([], checkF g fs) := by unfold mostFn; rw [if_pos hc]
    rw [e1, e2]
    exact cnd_f (by simp) (cnd_f (by simp) (cnd_t (by simpa using hc) (cnd_t rfl (cnd_t rfl fun _ => cnd_t rfl h))))
end Go.Proofs.Tw
set_option linter.unusedVariables false
namespace Go.Proofs.Tw
open Go Go.GX Go.Proofs
end Go.Proofs.Tw
set_option linter.unusedVariables false
set_option maxRecDepth 100000
namespace Go.Proofs.Tw
open Go Go.GX Go.Proofs
end Go.Proofs.Tw
set_option linter.unusedVariables false
set_option maxRecDepth 100000
namespace Go.Proofs.Tw
open Go Go.GX Go.Proofs
end Go.Proofs.Tw
set_option linter.unusedVariables false
namespace Go.Proofs.Tw
open Go Go.GX Go.Proofs

section
variable {g : Gauge} {fs : Fans} {f : Fam} {m : Nat} {wrong : List Int} {x : Nat → Int}
end
end Go.Proofs.Tw
set_option linter.unusedVariables false
namespace Go.Proofs.Tw
open Go Go.GX Go.Proofs
def cl (D : DM) (k : Nat) : DM := fun a b => if D a k < farD ∧ D k b < farD then mnI (D a b) (D a k + D k b) else D a b
end Go.Proofs.Tw
set_option linter.unusedVariables false
namespace Go.Proofs.Tw
open Go Go.GX Go.Proofs
section
variable {g : Gauge} {fs : Fans} {f : Fam} {m : Nat} {wrong : List Int}
end
end Go.Proofs.Tw
set_option linter.unusedVariables false
set_option maxRecDepth 100000
namespace Go.Proofs.Tw
open Go Go.GX Go.Proofs
end Go.Proofs.Tw
set_option linter.unusedVariables false
namespace Go.Proofs.Tw
open Go Go.GX Go.Proofs
theorem dig_facts (n : Nat) : ∀ k q, (digF n k q).length = k ∧ (digF n k q).all (inB (-1) ((n : Int) - 1)) = true
  | 0, _ => ⟨rfl, rfl⟩
  | k + 1, q => by
    obtain ⟨h1, h2⟩ := dig_facts n k (q / (n + 1))
    have : q % (n + 1) < n + 1 := Nat.mod_lt _ (Nat.succ_pos n)
    refine ⟨?_, ?_⟩
    · show (digF n k (q / (n + 1)) ++ [((q % (n + 1) : Nat) : Int) - 1]).length = k + 1
      rw [List.length_append, h1]; rfl
    · show (digF n k (q / (n + 1)) ++ [((q % (n + 1) : Nat) : Int) - 1]).all _ = true
      rw [List.all_append, h2]
      simp only [List.all_cons, List.all_nil, Bool.and_true, Bool.true_and]
      unfold inB
      simp only [Bool.and_eq_true, decide_eq_true_eq]
      omega
theorem count_range (p : Int → Bool) : ∀ f : List Int, (List.range f.length).countP (fun i => p (f.getD i 0)) = f.countP p := by
  intro f
  have e : f = (List.range f.length).map fun i => f.getD i 0 := by
    refine List.ext_getElem (by simp) fun i h1 h2 => ?_
    rw [List.getElem_map, List.getElem_range, getD_lt h1]
  conv => rhs; rw [e, List.countP_map]
  rfl
def fewN (a : Nat) (l : List Fam) : Nat := l.foldl (fun a f => if origF f < a then origF f else a) a
theorem fewN_le : ∀ (l : List Fam) (a : Nat), fewN a l ≤ a ∧ (∀ f, f ∈ l → fewN a l ≤ origF f) ∧ (fewN a l = a ∨ ∃ f, f ∈ l ∧ fewN a l = origF f)
  | [], a => ⟨Nat.le_refl _, fun _ h => (by cases h), .inl rfl⟩
  | f :: l, a => by
    have e : fewN a (f :: l) = fewN (if origF f < a then origF f else a) l := rfl
    rw [e]
    by_cases hc : origF f < a
    · rw [if_pos hc]
      obtain ⟨h1, h2, h3⟩ := fewN_le l (origF f)
      refine ⟨by omega, fun x hx => ?_, ?_⟩
      · rcases List.mem_cons.1 hx with rfl | hx
        · exact h1
        · exact h2 x hx
      · rcases h3 with h3 | ⟨x, hx, h3⟩
        · exact .inr ⟨f, List.mem_cons_self .., h3⟩
        · exact .inr ⟨x, List.mem_cons_of_mem _ hx, h3⟩
    · rw [if_neg hc]
      obtain ⟨h1, h2, h3⟩ := fewN_le l a
      refine ⟨h1, fun x hx => ?_, ?_⟩
      · rcases List.mem_cons.1 hx with rfl | hx
        · omega
        · exact h2 x hx
      · rcases h3 with h3 | ⟨x, hx, h3⟩
        · exact .inl h3
        · exact .inr ⟨x, List.mem_cons_of_mem _ hx, h3⟩
theorem fewN_snoc (l : List Fam) (f : Fam) (a : Nat) : fewN a (l ++ [f]) = if origF f < fewN a l then origF f else fewN a l := by
  unfold fewN; rw [List.foldl_append]; rfl
theorem can_fold (g : Gauge) (fs : Fans) (n : Nat) : ∀ (L P : List Fam), L.foldl (canStep g fs) (fewN n (P.filter (rightF g fs)), (P.filter (rightF g fs)).filter fun f => decide (origF f = fewN n (P.filter (rightF g fs)))) =
    (fewN n ((P ++ L).filter (rightF g fs)), ((P ++ L).filter (rightF g fs)).filter fun f => decide (origF f = fewN n ((P ++ L).filter (rightF g fs))))
  | [], P => by rw [List.append_nil]; rfl
  | f :: L, P => by
    have e : P ++ f :: L = (P ++ [f]) ++ L := by simp
    rw [e, ← can_fold g fs n L (P ++ [f]), List.foldl_cons]
    congr 1
    rw [List.filter_append]
    obtain ⟨b1, b2, b3⟩ := fewN_le (P.filter (rightF g fs)) n
    generalize hR : P.filter (rightF g fs) = R at *
    unfold canStep
    cases hr : rightF g fs f
    · simp [hr]
    · have e1 : [f].filter (rightF g fs) = [f] := by simp [hr]
      rw [e1, fewN_snoc]
      by_cases h1 : fewN n R < origF f
      · rw [if_pos (by simp [h1]), if_neg (by omega), List.filter_append]
        have : [f].filter (fun f => decide (origF f = fewN n R)) = [] := by simp; omega
        rw [this, List.append_nil]
      · rw [if_neg (by simp; omega)]
        by_cases h2 : origF f < fewN n R
        · simp only [if_pos h2]
          rw [List.filter_append]
          have e2 : R.filter (fun x => decide (origF x = origF f)) = [] := by
            rw [List.filter_eq_nil_iff]
            intro x hx
            have := b2 x hx
            simp; omega
          rw [e2]; simp
        · simp only [if_neg h2]
          rw [List.filter_append]
          have : [f].filter (fun x => decide (origF x = fewN n R)) = [f] := by simp; omega
          rw [this]
theorem can_is (g : Gauge) (fs : Fans) : canF g fs = ((famsF fs.length).filter (rightF g fs)).filter fun f => decide (origF f = fewN (fs.length + 1) ((famsF fs.length).filter (rightF g fs))) := by
  have := can_fold g fs (fs.length + 1) (famsF fs.length) []
  unfold canF
  have e : ((famsF fs.length).foldl (canStep g fs) (fs.length + 1, [])) = _ := this
  rw [e]; rfl
end Go.Proofs.Tw
set_option linter.unusedVariables false
set_option maxRecDepth 100000
namespace Go.Proofs.Tw
open Go Go.GX Go.Proofs
theorem getD_app1 {α : Type} {a b : List α} {i : Nat} {d : α} (h : i < a.length) : (a ++ b).getD i d = a.getD i d := by
  rw [List.getD_eq_getElem?_getD, List.getD_eq_getElem?_getD, List.getElem?_append_left h]
theorem getD_app2 {α : Type} {a : List α} {y : α} {i : Nat} {d : α} (h : i = a.length) : (a ++ [y]).getD i d = y := by
  subst h
  rw [List.getD_eq_getElem?_getD, List.getElem?_concat_length]
  rfl

structure CopAt (g : Gauge) (l : Fans) (t : List (Int × Int)) (f : List Int) (i : Nat) : Prop where
  near : ∀ m, m < 2 → at2 (t.getD i (0, 0)) m - g.1.getD m 0 ≤ (l.getD i []).getD m 0 ∧ (l.getD i []).getD m 0 ≤ at2 (t.getD i (0, 0)) m + g.1.getD m 0
  two : (l.getD i []).length = 2
  rng : ∀ m, m < 2 → 900 - 100 * (i : Int) ≤ at2 (t.getD i (0, 0)) m ∧ at2 (t.getD i (0, 0)) m ≤ 2300 + 100 * (i : Int)
  fam : -1 ≤ f.getD i 0 ∧ f.getD i 0 < i
  cop : 0 ≤ f.getD i 0 → ∀ m, m < 2 → (g.2.2.getD m (0, 0)).1 ≤ at2 (t.getD i (0, 0)) m - at2 (t.getD (f.getD i 0).toNat (0, 0)) m ∧ at2 (t.getD i (0, 0)) m - at2 (t.getD (f.getD i 0).toNat (0, 0)) m ≤ (g.2.2.getD m (0, 0)).2
theorem cop_at {x : Gauged} (hx : GdOK x) {g : Gauge} (hg : GgOK g) : ∀ k, k ≤ 5 → k ≤ x.2.2.length → ∀ i, i < k → CopAt g (copS x g k).1 (copS x g k).2.1 (copS x g k).2.2 i
  | 0, _, _, i, hi => absurd hi (Nat.not_lt_zero _)
  | k + 1, h5, hl, i, hi => by
    obtain ⟨n1, n2, n3⟩ := cop_len x g k
    obtain ⟨l1, l2, l3, o0, o1, k0, k1, c0, c1⟩ := hg.facts
    obtain ⟨v, hv⟩ : ∃ v, v = x.2.2.getD k (0, 0, 0, 0) := ⟨_, rfl⟩
    have hby : by4 v := hx.f v (hv ▸ getD_mem (by omega))
    obtain ⟨r, hr⟩ : ∃ r, r = realC x g (copS x g k).2.1 k v := ⟨_, rfl⟩
    have e1 : (copS x g (k + 1)).1 = (copS x g k).1 ++ [shownF g r v] := by rw [hr, hv]; rfl
    have e2 : (copS x g (k + 1)).2.1 = (copS x g k).2.1 ++ [r] := by rw [hr, hv]; rfl
    have e3 : (copS x g (k + 1)).2.2 = (copS x g k).2.2 ++ [ofG k v] := by rw [hv]; rfl
    have ih := cop_at hx hg k (by omega) (by omega)
    rw [e1, e2, e3]
    rcases Nat.lt_succ_iff_lt_or_eq.1 hi with hi | rfl
    · obtain ⟨a1, a2, a3, a4, a5⟩ := ih i hi
      refine ⟨?_, ?_, ?_, ?_, ?_⟩
      · rw [getD_app1 (by omega), getD_app1 (by omega)]; exact a1
      · rw [getD_app1 (by omega)]; exact a2
      · rw [getD_app1 (by omega)]; exact a3
      · rw [getD_app1 (by omega)]; exact a4
      · rw [getD_app1 (a := (copS x g k).2.1) (by omega), getD_app1 (a := (copS x g k).2.2) (by omega)]
        intro h0
        rw [getD_app1 (by omega)]
        exact a5 h0
    · have hof := of_rng hby i
      have g1 : ((copS x g i).1 ++ [shownF g r v]).getD i [] = shownF g r v := getD_app2 n1.symm
      have g2 : ((copS x g i).2.1 ++ [r]).getD i (0, 0) = r := getD_app2 n2.symm
      have g3 : ((copS x g i).2.2 ++ [ofG i v]).getD i 0 = ofG i v := getD_app2 n3.symm
      have hcop : 0 ≤ ofG i v → ∀ m, m < 2 → (g.2.2.getD m (0, 0)).1 ≤ at2 r m - at2 ((copS x g i).2.1.getD (ofG i v).toNat (0, 0)) m ∧ at2 r m - at2 ((copS x g i).2.1.getD (ofG i v).toNat (0, 0)) m ≤ (g.2.2.getD m (0, 0)).2 := by
        intro h0 m hm
        have er : r = _ := hr
        unfold realC at er
        rw [if_pos h0] at er
        obtain ⟨y1, y2, y3, y4⟩ := hby
        rcases (by omega : m = 0 ∨ m = 1) with rfl | rfl
        · have := miss_in (s := g.2.2.getD 0 (0, 0)) (by omega) y2
          rw [er]
          simp only [at2, if_true]
          omega
        · have yb : byteB (v.2.1 / 2 + v.1 / 2) := by unfold byteB at *; omega
          have := miss_in (s := g.2.2.getD 1 (0, 0)) (by omega) yb
          rw [er]
          simp only [at2]
          rw [if_neg (by omega), if_neg (by omega)]
          omega
      refine ⟨fun m hm => by rw [g1, g2]; exact shown_at hg hby hm, by rw [g1]; rfl, fun m hm => ?_, by rw [g3]; exact hof, ?_⟩
      · rw [g2]
        by_cases h0 : 0 ≤ ofG i v
        · have hc := hcop h0 m hm
          have ha := (ih (ofG i v).toNat (by omega)).rng m hm
          have hcc : -100 ≤ (g.2.2.getD m (0, 0)).1 ∧ (g.2.2.getD m (0, 0)).2 ≤ 100 := by
            rcases (by omega : m = 0 ∨ m = 1) with rfl | rfl <;> omega
          omega
        · have er : r = _ := hr
          unfold realC at er
          rw [if_neg h0] at er
          obtain ⟨⟨q1, q2⟩, q3, q4⟩ := hx.p
          rw [er]
          unfold at2
          split <;> simp only <;> omega
      · rw [g3, g2]
        intro h0 m hm
        rw [getD_app1 (by omega)]
        exact hcop h0 m hm
theorem chase_down {f : List Int} (hf : ∀ i, i < f.length → -1 ≤ f.getD i 0 ∧ f.getD i 0 < i) {a : Nat} (ha : a < f.length) : ∀ k, chaseF f k a < 0 ∨ (chaseF f k a ≤ a - k)
  | 0 => .inr (by simp [chaseF])
  | k + 1 => by
    have ih := chase_down hf ha k
    simp only [chaseF]
    split
    · rename_i h
      have := hf (chaseF f k a).toNat (by omega)
      omega
    · rename_i h
      exact .inl (by omega)
theorem fam_down {f : List Int} {n : Nat} (hl : f.length = n) (hf : ∀ i, i < f.length → -1 ≤ f.getD i 0 ∧ f.getD i 0 < i) : isFamF f n = true := by
  unfold isFamF
  simp only [Bool.and_eq_true, decide_eq_true_eq, List.all_eq_true]
  refine ⟨⟨hl, fun y hy => ?_⟩, ?_⟩
  · obtain ⟨i, hi, rfl⟩ := List.mem_iff_getElem.1 hy
    have := hf i hi
    rw [List.getD_eq_getElem?_getD, List.getElem?_eq_getElem hi] at this
    simp only [Option.getD_some] at this
    exact inB_iff.2 ⟨this.1, by omega⟩
  · rw [okOrd_iff fun i hi => ⟨(hf i hi).1, by have := (hf i hi).2; omega⟩, List.all_eq_true]
    intro i hi
    have hi := List.mem_range.1 hi
    rw [decide_eq_true_eq]
    have := chase_down hf hi f.length
    omega
end Go.Proofs.Tw
set_option linter.unusedVariables false
set_option maxRecDepth 100000
namespace Go.Proofs.Tw
open Go Go.GX Go.Proofs

structure Tru (g : Gauge) (fs : Fans) (f : Fam) (m : Nat) (s : List Int) (x : Nat → Int) : Prop where
  sol : Sol (g.2.2.getD m (0, 0)) f x
  meas : Meas g fs m s x
  bd : ∀ i, i < fs.length → -1048576 ≤ x i ∧ x i ≤ 1048576
theorem fam_len {f : List Int} {n : Nat} (h : isFamF f n = true) : f.length = n := by
  unfold isFamF at h
  simp only [Bool.and_eq_true, decide_eq_true_eq] at h
  exact h.1.1
theorem blame_iff {g : Gauge} {fs : Fans} (v : VB g fs) {f : Fam} (hf : isFamF f fs.length = true) {m : Nat} (hm : m < g.1.length) {s : List Int} : blameP g fs f m s = true ↔ ∃ x, Tru g fs f m s x := by
  have fl := fam_len hf
  unfold blameP
  rw [Bool.or_eq_true, decide_eq_true_eq]
  constructor
  · rintro (h | h)
    · exact ⟨fun _ => 0, fun i hi => by omega, fun i hi => by omega, fun i hi => by omega⟩
    · obtain ⟨fin, e⟩ := Option.isSome_iff_exists.1 h
      obtain ⟨l, s1, s2, _⟩ := truth_complete (by have := v.copy_v hm; omega) hf e
      refine ⟨_, s1, in_meas fl s2, fun i hi => ?_⟩
      have := s2 i (by rw [startF_len]; omega)
      rw [startF_get g fs m s (by omega)] at this
      have hb := patF_bounds v hm i hi
      cases hw : hasF s i
      · rw [hw] at this
        simp only [Bool.false_eq_true, if_false] at this
        omega
      · rw [hw] at this
        exact this
  · rintro ⟨x, h1, h2, h3⟩
    obtain ⟨fin, e, _⟩ := truth_sound hf h1 (meas_in fl h2 h3)
    exact .inr (by rw [e]; rfl)
theorem right_iff {g : Gauge} {fs : Fans} {f : Fam} : rightF g fs f = true ↔ ∀ m, m < g.1.length → blameP g fs f m [] = true := by
  unfold rightF
  rw [List.all_eq_true]
  constructor
  · intro h m hm
    have := h m (List.mem_range.2 hm)
    unfold blameP
    cases e : truthF g fs m f []
    · rw [e] at this
      simp at this
      simp [this]
    · simp
  · intro h m hm
    have := h m (List.mem_range.1 hm)
    unfold blameP at this
    cases e : truthF g fs m f []
    · rw [e] at this
      simp at this
      simp [this]
    · simp

theorem truth_in {g : Gauge} {fs : Fans} (v : VB g fs) {f : Fam} (hf : isFamF f fs.length = true) {m : Nat} (hm : m < g.1.length) {x : Nat → Int} (h : Tru g fs f m [] x) {i : Nat} (hi : i < fs.length) :
    (((truthsF g fs f).getD i []).getD m (0, 0)).1 ≤ x i ∧ x i ≤ (((truthsF g fs f).getD i []).getD m (0, 0)).2 := by
  have fl := fam_len hf
  obtain ⟨fin, e, hin, hl⟩ := truth_sound hf h.sol (meas_in fl h.meas h.bd)
  unfold truthsF
  rw [map_range_getD _ _ _ _ hi, map_range_getD _ _ _ _ hm, e]
  exact hin i (by omega)

theorem truth_ends {g : Gauge} {fs : Fans} (v : VB g fs) {f : Fam} (hf : isFamF f fs.length = true) {m : Nat} (hm : m < g.1.length) (hb : blameP g fs f m [] = true) {i : Nat} (hi : i < fs.length) :
    (∃ x, Tru g fs f m [] x ∧ x i = (((truthsF g fs f).getD i []).getD m (0, 0)).1) ∧ ∃ x, Tru g fs f m [] x ∧ x i = (((truthsF g fs f).getD i []).getD m (0, 0)).2 := by
  have fl := fam_len hf
  unfold blameP at hb
  rw [Bool.or_eq_true, decide_eq_true_eq] at hb
  rcases hb with hb | hb
  · omega
  · obtain ⟨fin, e⟩ := Option.isSome_iff_exists.1 hb
    obtain ⟨l, s1, s2, s3, s4⟩ := truth_complete (by have := v.copy_v hm; omega) hf e
    unfold truthsF
    rw [map_range_getD _ _ _ _ hi, map_range_getD _ _ _ _ hm, e]
    have bd : ∀ y : Nat → Int, Meas g fs m [] y → ∀ i, i < fs.length → -1048576 ≤ y i ∧ y i ≤ 1048576 := by
      intro y hy i hi
      have h1 := hy i hi rfl
      have h2 := v.fan_v hi hm
      have h3 := v.off_v hm
      omega
    exact ⟨⟨_, ⟨s3, in_meas fl s4, bd _ (in_meas fl s4)⟩, rfl⟩, ⟨_, ⟨s1, in_meas fl s2, bd _ (in_meas fl s2)⟩, rfl⟩⟩
end Go.Proofs.Tw
set_option linter.unusedVariables false
set_option maxRecDepth 100000
namespace Go.Proofs.Tw
open Go Go.GX Go.Proofs
theorem wrong_two {g : Gauge} {fs : Fans} (hg : g.1.length = 2) : wrongF g fs = (leastS fs.length (wrongP g fs) 0).map (fun f => ((0 : Int), f)) ++ (leastS fs.length (wrongP g fs) 1).map fun f => ((1 : Int), f) := by
  unfold wrongF
  rw [hg]
  exact blame_two _ _
theorem fs_vb {g : Gauge} {l : Fans} (v : VB g l) (hg : g.1.length = 2) : FsOK l := ⟨v.f5, fun f hf => by rw [v.fl f hf, hg], fun f hf x hx => by have := v.fv f hf x hx; omega⟩

theorem wrongP_iff {g : Gauge} {fs : Fans} (v : VB g fs) {m : Nat} (hm : m < g.1.length) (s : List Int) : wrongP g fs m s = true ↔ ∀ i k : Nat, i < fs.length → k < fs.length → hasF s i = false → hasF s k = false → (fs.getD i []).getD m 0 - (fs.getD k []).getD m 0 ≤ 2 * g.2.1.getD m 0 + 2 * g.1.getD m 0 := by
  unfold wrongP
  rw [pair_iff v hm]
  simp only [Bool.not_eq_true']
theorem wrong_full {g : Gauge} {fs : Fans} (v : VB g fs) {m : Nat} (hm : m < g.1.length) : wrongP g fs m (numsF (fun _ => true) fs.length) = true := by
  rw [wrongP_iff v hm]
  intro i k hi hk h1 h2
  rw [numsF_has hi] at h1
  cases h1
end Go.Proofs.Tw
set_option linter.unusedVariables false
set_option maxRecDepth 100000
namespace Go.Proofs.Tw
open Go Go.GX Go.Proofs
def cm (y : Int × Int) : Nat := (y.1 / 8 % 2).toNat
theorem numsF_cnt (p : Nat → Bool) (k : Nat) : (numsF p k).length = (List.range k).countP p := by
  unfold numsF
  rw [List.length_map, List.countP_eq_length_filter]
end Go.Proofs.Tw
set_option linter.unusedVariables false
set_option maxRecDepth 100000
namespace Go.Proofs.Tw
open Go Go.GX Go.Proofs
structure CopOK (g : Gauge) (l : Fans) (t : List (Int × Int)) (f : List Int) : Prop where
  gg : GgOK g
  vb : VB g l
  tl : t.length = l.length
  fl : f.length = l.length
  fam : isFamF f l.length = true
  at' : ∀ i, i < l.length → CopAt g l t f i
theorem cop_ok {x : Gauged} (hx : GdOK x) : CopOK (gaugeG x.1) (copS x (gaugeG x.1) (copN x)).1 (copS x (gaugeG x.1) (copN x)).2.1 (copS x (gaugeG x.1) (copN x)).2.2 := by
  have hg := gauge_gg hx.g
  obtain ⟨n1, n2, n3⟩ := cop_len x (gaugeG x.1) (copN x)
  have hn : copN x ≤ 5 ∧ copN x ≤ x.2.2.length := by unfold copN; omega
  have ha := cop_at hx hg (copN x) hn.1 hn.2
  refine ⟨hg, ?_, by omega, by omega, ?_, fun i hi => ha i (by omega)⟩
  · refine vb_of hg (by omega) (fun f hf => ?_) (fun f hf y hy => ?_)
    all_goals
      obtain ⟨i, hi, rfl⟩ := List.mem_iff_getElem.1 hf
      have hi' : i < copN x := by omega
      obtain ⟨a1, a2, a3, a4, a5⟩ := ha i hi'
      rw [List.getD_eq_getElem?_getD, List.getElem?_eq_getElem hi] at a2
    · exact a2
    · obtain ⟨m, hm, rfl⟩ := List.mem_iff_getElem.1 hy
      have hm2 : m < 2 := by simp only [Option.getD_some] at a2; omega
      have b1 := a1 m hm2
      have b3 := a3 m hm2
      have ho := gg_off hg hm2
      have e : (((copS x (gaugeG x.1) (copN x)).1.getD i []).getD m 0) = ((copS x (gaugeG x.1) (copN x)).1[i])[m] := by
        simp [List.getD_eq_getElem?_getD, hi, hm]
      rw [e] at b1
      omega
  · rw [n1]
    exact fam_down (n3.trans rfl) fun i hi => (ha i (by omega)).fam

theorem tru_of {g : Gauge} {l l' : Fans} {t : List (Int × Int)} {f : List Int} (c : CopOK g l t f) (hl : l'.length = l.length) {m : Nat} (hm : m < 2) {s : List Int}
    (hs : ∀ i : Nat, i < l.length → hasF s i = false → at2 (t.getD i (0, 0)) m - g.1.getD m 0 ≤ (l'.getD i []).getD m 0 ∧ (l'.getD i []).getD m 0 ≤ at2 (t.getD i (0, 0)) m + g.1.getD m 0) :
    Tru g l' f m s fun i => at2 (t.getD i (0, 0)) m := by
  refine ⟨fun i hi hne => ?_, fun i hi hw => ?_, fun i hi => ?_⟩
  · have ca := c.at' i (by rw [← c.fl]; exact hi)
    have := ca.fam
    exact ca.cop (by omega) m hm
  · have := hs i (by omega) hw
    constructor
    · show _ ≤ at2 (t.getD i (0, 0)) m; omega
    · show at2 (t.getD i (0, 0)) m ≤ _; omega
  · have := (c.at' i (by omega)).rng m hm
    have h5 := c.vb.f5
    constructor
    · show -1048576 ≤ at2 (t.getD i (0, 0)) m; omega
    · show at2 (t.getD i (0, 0)) m ≤ 1048576; omega
theorem blame_two' {g : Gauge} {fs : Fans} {f : List Int} (hg : g.1.length = 2) : blameF g.1.length fs.length (blameP g fs f) = (leastS fs.length (blameP g fs f) 0).map (fun x => ((0 : Int), x)) ++ (leastS fs.length (blameP g fs f) 1).map fun x => ((1 : Int), x) := by
  rw [hg]; exact blame_two _ _
theorem blameFn_eq {g : Gauge} {fs : Fans} (v : VB g fs) {f : List Int} (hf : isFamF f fs.length = true) : blameFn g fs f = (blameF g.1.length fs.length (blameP g fs f), 0) := by
  unfold blameFn
  rw [if_neg (by simp [check0 v]), if_neg (by simp [hf])]
theorem truthFn_eq {g : Gauge} {fs : Fans} (v : VB g fs) {f : List Int} (hf : isFamF f fs.length = true) : truthFn g fs f = if rightF g fs f = true then (truthsF g fs f, 0) else ([], 9) := by
  unfold truthFn
  rw [if_neg (by simp [check0 v]), if_neg (by simp [hf])]
  cases rightF g fs f <;> rfl

theorem right_copies {g : Gauge} (hg : GgOK g) {fs : Fans} (v : VB g fs) {f : List Int} (hf : isFamF f fs.length = true) (hd : ∀ i, i < f.length → -1 ≤ f.getD i 0 ∧ f.getD i 0 < fs.length ∧ f.getD i 0 ≠ (i : Int)) (hr : rightF g fs f = true) : copiesB g fs f = true := by
  have l1 := hg.facts.1
  have fl := fam_len hf
  unfold copiesB
  rw [decide_eq_true fl, Bool.true_and, List.all_eq_true]
  intro i hi
  have hi := List.mem_range.1 hi
  have h := hd i hi
  rw [decide_eq_true h.1, decide_eq_true h.2.1, decide_eq_false h.2.2]
  simp only [Bool.true_and, Bool.not_false, Bool.or_eq_true, decide_eq_true_eq, List.all_eq_true]
  by_cases h0 : f.getD i 0 < 0
  · exact .inl h0
  · right
    intro m hm
    have hm := List.mem_range.1 hm
    obtain ⟨x, tr⟩ := (blame_iff v hf hm).1 (right_iff.1 hr m hm)
    have hs := tr.sol i hi (by omega)
    have a := tr.meas i (by omega) rfl
    have b := tr.meas (f.getD i 0).toNat (by omega) rfl
    unfold copyB
    rw [decide_eq_true (by omega), decide_eq_true (by omega)]
    rfl

structure OneOff (g : Gauge) (l l' : Fans) (f : List Int) (m : Nat) : Prop where
  few : (blameF g.1.length l'.length (blameP g l' f)).length ≤ 1
  one : (blameF g.1.length l'.length (blameP g l' f)).length = 1 → ((blameF g.1.length l'.length (blameP g l' f)).getD 0 (0, 0)).1 = m
  ord : slipsB (blameF g.1.length l'.length (blameP g l' f)) l'.length = true
  right : rightF g l' f = true ↔ (blameF g.1.length l'.length (blameP g l' f)).length = 0
end Go.Proofs.Tw
set_option linter.unusedVariables false
set_option maxRecDepth 100000
namespace Go.Proofs.Tw
open Go Go.GX Go.Proofs

end Go.Proofs.Tw
set_option linter.unusedVariables false
set_option maxRecDepth 100000
namespace Go.Proofs.Tw
open Go Go.GX Go.Proofs
def LA (n : Nat) : List Fam := (List.range ((n + 1) ^ n)).map (digF n n)
theorem LA_fam {n : Nat} {f : Fam} (h : f ∈ LA n) : f.length = n ∧ isFamF f n = okOrd f := by
  obtain ⟨q, _, rfl⟩ := List.mem_map.1 h
  obtain ⟨h1, h2⟩ := dig_facts n n q
  refine ⟨h1, ?_⟩
  unfold isFamF
  rw [h2, decide_eq_true h1, Bool.true_and, Bool.true_and]

def fewO (g : Gauge) (fs : Fans) : Nat := fewN (fs.length + 1) ((famsF fs.length).filter (rightF g fs))
def selF (g : Gauge) (fs : Fans) (f : Fam) : Bool := okOrd f && (rightF g fs f && decide (origF f = fewO g fs))
theorem can_sel (g : Gauge) (fs : Fans) : canF g fs = (LA fs.length).filter (selF g fs) := by
  rw [can_is]
  unfold famsF
  rw [List.filter_filter, List.filter_filter]
  refine List.filter_congr fun f _ => ?_
  unfold selF fewO famsF
  cases okOrd f <;> cases rightF g fs f <;> simp
theorem few_least {g : Gauge} {fs : Fans} {f : Fam} (h : f ∈ LA fs.length) (ho : okOrd f = true) (hr : rightF g fs f = true) : fewO g fs ≤ origF f := by
  have hm : f ∈ (famsF fs.length).filter (rightF g fs) := List.mem_filter.2 ⟨List.mem_filter.2 ⟨h, ho⟩, hr⟩
  exact (fewN_le ((famsF fs.length).filter (rightF g fs)) (fs.length + 1)).2.1 f hm
theorem orig_neg {n : Nat} {f : Fam} (h : isFamF f n = true) : (f.countP fun x => decide (x < 0)) = origF f := by
  unfold origF
  unfold isFamF at h
  simp only [Bool.and_eq_true] at h
  refine List.countP_congr fun x hx => ?_
  have := inB_iff.1 (List.all_eq_true.1 h.1.2 x hx)
  simp only [decide_eq_true_eq, beq_iff_eq]
  omega
theorem first_orig {g : Gauge} {fs : Fans} (v : VB g fs) : isFamF ((canF g fs).getD 0 []) fs.length = true ∧ origF ((canF g fs).getD 0 []) = fewO g fs := by
  have hne := canF_ne v
  have hl : 0 < (canF g fs).length := List.length_pos_iff.2 hne
  have hm := getD_mem (d := ([] : List Int)) hl
  rw [can_sel, List.mem_filter] at hm
  rw [← can_sel] at hm
  unfold selF at hm
  simp only [Bool.and_eq_true, decide_eq_true_eq] at hm
  exact ⟨by rw [(LA_fam hm.1).2]; exact hm.2.1, hm.2.2.2⟩

end Go.Proofs.Tw
set_option linter.unusedVariables false
set_option maxRecDepth 100000
namespace Go.Proofs.Tw
open Go Go.GX Go.Proofs
theorem dig_all (n : Nat) : ∀ k (f : List Int), f.length = k → (∀ y, y ∈ f → -1 ≤ y ∧ y ≤ (n : Int) - 1) → ∃ q, q < (n + 1) ^ k ∧ digF n k q = f
  | 0, f, hl, _ => ⟨0, by simp, by rw [List.length_eq_zero_iff.1 hl]; rfl⟩
  | k + 1, f, hl, hr => by
    have hne : f ≠ [] := by intro e; rw [e] at hl; cases hl
    obtain ⟨f', z, rfl⟩ : ∃ f' z, f = f' ++ [z] := ⟨f.dropLast, f.getLast hne, (List.dropLast_concat_getLast hne).symm⟩
    obtain ⟨q, hq, e⟩ := dig_all n k f' (by simpa using hl) fun y hy => hr y (by simp [hy])
    have hz := hr z (by simp)
    have hrl : (z + 1).toNat < n + 1 := by omega
    refine ⟨q * (n + 1) + (z + 1).toNat, ?_, ?_⟩
    · rw [Nat.pow_succ]
      calc q * (n + 1) + (z + 1).toNat < q * (n + 1) + (n + 1) := by omega
        _ = (q + 1) * (n + 1) := by rw [Nat.succ_mul]
        _ ≤ (n + 1) ^ k * (n + 1) := Nat.mul_le_mul_right _ hq
    · show digF n k ((q * (n + 1) + (z + 1).toNat) / (n + 1)) ++ [(((q * (n + 1) + (z + 1).toNat) % (n + 1) : Nat) : Int) - 1] = _
      have e1 : (q * (n + 1) + (z + 1).toNat) / (n + 1) = q := by
        rw [Nat.add_comm, Nat.add_mul_div_right _ _ (Nat.succ_pos n), Nat.div_eq_of_lt hrl, Nat.zero_add]
      have e2 : (q * (n + 1) + (z + 1).toNat) % (n + 1) = (z + 1).toNat := by
        rw [Nat.add_comm, Nat.add_mul_mod_self_right, Nat.mod_eq_of_lt hrl]
      rw [e1, e2, e]
      congr 2
      omega
theorem LA_mem {n : Nat} {f : Fam} (h : isFamF f n = true) : f ∈ LA n ∧ okOrd f = true := by
  unfold isFamF at h
  simp only [Bool.and_eq_true, decide_eq_true_eq] at h
  obtain ⟨q, hq, e⟩ := dig_all n n f h.1.1 fun y hy => inB_iff.1 (List.all_eq_true.1 h.1.2 y hy)
  exact ⟨List.mem_map.2 ⟨q, List.mem_range.2 hq, e⟩, h.2⟩
section
variable {g : Gauge} {l : Fans} {t : List (Int × Int)} {f : List Int}
theorem cop_tru (c : CopOK g l t f) {m : Nat} (hm : m < 2) : Tru g l f m [] fun i => at2 (t.getD i (0, 0)) m :=
  tru_of c rfl hm fun i hi _ => (c.at' i hi).near m hm
theorem cop_right (c : CopOK g l t f) : rightF g l f = true := by
  have l1 := c.gg.facts.1
  exact right_iff.2 fun m hm => (blame_iff c.vb c.fam hm).2 ⟨_, cop_tru c (by omega)⟩
theorem cop_blame (c : CopOK g l t f) : blameF g.1.length l.length (blameP g l f) = [] := by
  have l1 := c.gg.facts.1
  have hr := right_iff.1 (cop_right c)
  have l0 : ∀ k, k < 2 → leastS l.length (blameP g l f) k = [] := fun k hk => by
    have := (least_ok c.vb.f5 (nil_set _) (hr k (by omega))).2 _ (nil_set _) (hr k (by omega))
    exact List.length_eq_zero_iff.1 (by simpa using this)
  rw [blame_two' l1, l0 0 (by omega), l0 1 (by omega)]
  rfl
theorem fam_rng {n : Nat} {fs : Fans} {f : List Int} (hn : fs.length = n) (h : isFamF f n = true) : ∀ i, i < f.length → -1 ≤ f.getD i 0 ∧ f.getD i 0 < fs.length ∧ f.getD i 0 ≠ (i : Int) := by
  subst hn
  obtain ⟨fd, _⟩ := fam_of h
  intro i hi
  have a := fd.rng i hi
  have b := fd.len
  exact ⟨a.1, by omega, a.2.2⟩
theorem cop_copies (c : CopOK g l t f) : copiesB g l f = true := right_copies c.gg c.vb c.fam (fam_rng rfl c.fam) (cop_right c)

theorem vb_two (hg : GgOK g) (v : VB g l) {i o : Nat} (hi : i < l.length) (ho : o < l.length) : VB g [l.getD o [], l.getD i []] := by
  have l1 := hg.facts.1
  refine vb_of hg (by simp) (fun f hf => ?_) (fun f hf y hy => ?_)
  all_goals
    have hm : f ∈ l := by
      simp only [List.mem_cons, List.not_mem_nil, or_false] at hf
      rcases hf with rfl | rfl
      · exact getD_mem ho
      · exact getD_mem hi
  · rw [v.fl f hm, l1]
  · exact v.fv f hm y hy
theorem cop_may (c : CopOK g l t f) {i : Nat} (hi : i < l.length) (h0 : 0 ≤ f.getD i 0) : (copyFn g [l.getD (f.getD i 0).toNat [], l.getD i []]).2 = (true, 0) := by
  have l1 := c.gg.facts.1
  have ca := c.at' i hi
  have hfo : (f.getD i 0).toNat < l.length := by have := ca.fam; omega
  have co := c.at' (f.getD i 0).toNat hfo
  unfold copyFn
  rw [if_neg (fun e => e (check0 (vb_two c.gg c.vb hi hfo)))]
  refine Prod.ext ?_ rfl
  show ((List.range g.1.length).all (cMay g [l.getD (f.getD i 0).toNat [], l.getD i []])) = true
  rw [List.all_eq_true]
  intro m hm
  have hm2 : m < 2 := by have := List.mem_range.1 hm; omega
  have a := ca.near m hm2
  have b := co.near m hm2
  have d := ca.cop h0 m hm2
  unfold cMay leastF mostlyF trulyF
  simp only [List.getD_cons_zero, List.getD_cons_succ, Bool.and_eq_true, decide_eq_true_eq]
  omega

structure FirstOK (g : Gauge) (l : Fans) (f : List Int) (fst : List Int) : Prop where
  len : fst.length = l.length
  copies : copiesB g l fst = true
  few : (fst.countP fun x => decide (x < 0)) ≤ f.countP fun x => decide (x < 0)
  sure : (numsF (sureF g l) l.length).length ≤ fst.countP fun x => decide (x < 0)
  may : (fst.countP fun x => decide (x < 0)) ≤ (numsF (mayF g l) l.length).length
  one : ∀ i, i < l.length → sureF g l i = true → fst.getD i 0 = -1
theorem first_ok (c : CopOK g l t f) : FirstOK g l f ((canF g l).getD 0 []) := by
  have hl : 0 < (canF g l).length := List.length_pos_iff.2 (canF_ne c.vb)
  have hm := getD_mem (d := ([] : List Int)) hl
  obtain ⟨f1, f2⟩ := first_orig c.vb
  have hsel : rightF g l ((canF g l).getD 0 []) = true := by
    have := hm
    rw [can_sel, List.mem_filter] at this
    rw [← can_sel] at this
    have h2 := this.2
    unfold selF at h2
    simp only [Bool.and_eq_true] at h2
    exact h2.2.1
  generalize (canF g l).getD 0 [] = fst at *
  have fl := fam_len f1
  have o1 := orig_neg f1
  have o2 := orig_neg c.fam
  obtain ⟨la, lo⟩ := LA_mem c.fam
  have few := few_least la lo (cop_right c)
  have cr : (List.range l.length).countP (fun i => fst.getD i 0 == -1) = origF fst := by
    have := count_range (fun x => x == -1) fst
    rw [fl] at this
    exact this
  refine ⟨fl, right_copies c.gg c.vb f1 (fam_rng rfl f1) hsel, by omega, ?_, ?_, fun i hi hs => ?_⟩
  · rw [numsF_cnt, o1, ← cr]
    refine List.countP_mono_left fun i _ hs => ?_
    exact List.all_eq_true.1 hs fst hm
  · rw [numsF_cnt, o1, ← cr]
    refine List.countP_mono_left fun i _ hs => ?_
    exact List.any_eq_true.2 ⟨fst, hm, hs⟩
  · exact eq_of_beq (List.all_eq_true.1 hs fst hm)

theorem cop_span (c : CopOK g l t f) {i m : Nat} (hi : i < l.length) (hm : m < 2) :
    ((((truthsF g l f).getD i []).getD m (0, 0)).1 ≤ at2 (t.getD i (0, 0)) m ∧ at2 (t.getD i (0, 0)) m ≤ (((truthsF g l f).getD i []).getD m (0, 0)).2) ∧
    (l.getD i []).getD m 0 - g.1.getD m 0 ≤ (((truthsF g l f).getD i []).getD m (0, 0)).1 ∧ (((truthsF g l f).getD i []).getD m (0, 0)).2 ≤ (l.getD i []).getD m 0 + g.1.getD m 0 := by
  have l1 := c.gg.facts.1
  have hb := right_iff.1 (cop_right c) m (by omega)
  have hin := truth_in c.vb c.fam (show m < g.1.length by omega) (cop_tru c hm) hi
  obtain ⟨⟨x, tx, ex⟩, y, ty, ey⟩ := truth_ends c.vb c.fam (show m < g.1.length by omega) hb hi
  have mx := tx.meas i hi rfl
  have my := ty.meas i hi rfl
  exact ⟨hin, by omega, by omega⟩
end
end Go.Proofs.Tw
set_option linter.unusedVariables false
set_option maxRecDepth 100000
namespace Go.Proofs.Tw
open Go Go.GX Go.Proofs
structure Better (g g' : Gauge) : Prop where
  gg : GgOK g'
  km : g'.2.1 = g.2.1
  cp : g'.2.2 = g.2.2
  off : ∀ m, m < 2 → 0 ≤ g'.1.getD m 0 ∧ g'.1.getD m 0 ≤ g.1.getD m 0
section
variable {g g' : Gauge} {l : Fans} {f : List Int}
theorem Better.tru (b : Better g g') {m : Nat} (hm : m < 2) {s : List Int} {x : Nat → Int} (h : Tru g' l f m s x) : Tru g l f m s x := by
  refine ⟨by rw [← b.cp]; exact h.sol, fun i hi hw => ?_, h.bd⟩
  have a := h.meas i hi hw
  have c := b.off m hm
  omega
theorem Better.right (b : Better g g') (hg : GgOK g) (v : VB g l) (v' : VB g' l) (hf : isFamF f l.length = true) (h : rightF g' l f = true) : rightF g l f = true := by
  have l1 := hg.facts.1
  have l1' := b.gg.facts.1
  rw [right_iff] at h ⊢
  intro m hm
  obtain ⟨x, tr⟩ := (blame_iff v' hf (by omega)).1 (h m (by omega))
  exact (blame_iff v hf hm).2 ⟨x, b.tru (by omega) tr⟩
theorem Better.wrongP (b : Better g g') (hg : GgOK g) (v : VB g l) (v' : VB g' l) {m : Nat} (hm : m < 2) {s : List Int} (h : Tw.wrongP g' l m s = true) : Tw.wrongP g l m s = true := by
  have l1 := hg.facts.1
  have l1' := b.gg.facts.1
  rw [wrongP_iff v' (by omega)] at h
  rw [wrongP_iff v (by omega)]
  intro i k hi hk h1 h2
  have := h i k hi hk h1 h2
  have c := b.off m hm
  rw [b.km] at this
  omega
theorem least_mono {k : Nat} (hk : k ≤ 5) {p q : Nat → List Int → Bool} {m : Nat} {t : List Int} (ht : t ∈ setsF k) (hq : q m t = true) (h : ∀ s, s ∈ setsF k → q m s = true → p m s = true) : (leastS k p m).length ≤ (leastS k q m).length := by
  have a := least_ok hk ht hq
  have b := h _ (least_mem k q m) a.1
  exact (least_ok hk (least_mem k q m) b).2 _ (least_mem k q m) b
theorem Better.wrong (b : Better g g') (hg : GgOK g) (v : VB g l) (v' : VB g' l) : (wrongF g l).length ≤ (wrongF g' l).length := by
  have l1 := hg.facts.1
  have l1' := b.gg.facts.1
  rw [wrong_two l1, wrong_two l1', List.length_append, List.length_append, List.length_map, List.length_map, List.length_map, List.length_map]
  have key : ∀ m, m < 2 → (leastS l.length (Tw.wrongP g l) m).length ≤ (leastS l.length (Tw.wrongP g' l) m).length := fun m hm => least_mono v.f5 (sets_all v.f5).1 (wrong_full v' (by omega)) fun s hs h => b.wrongP hg v v' hm h
  have := key 0 (by omega)
  have := key 1 (by omega)
  omega
end
theorem truths_len (g : Gauge) (l : Fans) (f : List Int) : (truthsF g l f).length = l.length ∧ ∀ i, i < l.length → ((truthsF g l f).getD i []).length = g.1.length := by
  unfold truthsF
  refine ⟨by simp, fun i hi => ?_⟩
  rw [map_range_getD _ _ _ _ hi]
  simp
end Go.Proofs.Tw
set_option linter.unusedVariables false
set_option maxRecDepth 100000
namespace Go.Proofs.Tw
open Go Go.GX Go.Proofs
theorem forLitG {n : Nat} {N : Int} (hN : N = (n : Int)) (hn : n ≤ 1000) {body : (Int → Prop) → (Int → Nat) → Int → Prop}
    (hb : ∀ k : Nat, k < n → ∀ (I : Int → Prop) (μ : Int → Nat), (I (k + 1 : Int) ∧ μ (k + 1 : Int) < μ k) → IntKind.wrap .i64 ((k : Int) + 1) = k + 1 → body I μ k)
    {e : Int → Prop} (he : e n) :
    ∃ (I : Int → Prop) (μ : Int → Nat), I 0 ∧ ∀ x, I x → cnd (decide (x < N)) (body I μ x) (e x) := by
  subst hN
  exact forUpG (by omega) (fun _ => True) trivial (fun k hk _ I μ hI hw => hb k hk I μ (hI trivial) hw) (fun _ => he)

structure MadeOK (g : Gauge) (l : Fans) (t : List (Int × Int)) (p : Int × Int) : Prop where
  gg : GgOK g
  vb : VB g l
  tw : twinsF g l (fun _ => true) = true
  tl : t.length = l.length
  fits : ∀ m, m < 2 → Fits g l m (fun _ => true) l.length (at2 p m)
  pr : ∀ m, 200 ≤ at2 p m ∧ at2 p m ≤ 555
  near : ∀ i, i < l.length → ∀ m, m < 2 → at2 (t.getD i (0, 0)) m - g.1.getD m 0 ≤ (l.getD i []).getD m 0 ∧ (l.getD i []).getD m 0 ≤ at2 (t.getD i (0, 0)) m + g.1.getD m 0
theorem cnd_f' {b : Bool} {p q : Prop} (hb : b = false) (h : q) : cnd b p q := by rw [hb]; exact h
theorem cnd_t' {b : Bool} {p q : Prop} (hb : b = true) (h : p) : cnd b p q := by rw [hb]; exact h
end Go.Proofs.Tw
set_option linter.unusedVariables false
set_option maxRecDepth 100000
set_option maxHeartbeats 2000000
namespace Go.Proofs.Tw
open Go Go.GX Go.Proofs
theorem p16 {x : Gauged} {Q : Bool → Prop} (h : f16_wp x () Q) : V16 x Q := by
  obtain ⟨hx, h⟩ := h
  have ck := cop_ok hx
  unfold V16
  simp only [f45_wp, f52_wp, f47_wp, f48_wp, f58_wp, f53_wp, f37_wp, f41_wp, f54_wp, f60_wp, f56_wp, f49_wp, f18_wp, List.map_id_fun', id, Prod.eta, List.nil_append]
  refine ⟨hx.g, ⟨hx, ck.gg⟩, ?_⟩
  generalize (copS x (gaugeG x.1) (copN x)).1 = l at *
  generalize (copS x (gaugeG x.1) (copN x)).2.1 = t at *
  generalize (copS x (gaugeG x.1) (copN x)).2.2 = f at *
  generalize gaugeG x.1 = g at *
  obtain ⟨l1, l2, l3, o0, o1, k0, k1, c0, c1⟩ := ck.gg.facts
  have hg := ck.gg
  have v := ck.vb
  have f5 := v.f5
  have hfl := ck.fl
  have htl := ck.tl
  have hck := check0 v
  have lg : g.1.length ≤ 1000000 ∧ g.2.1.length ≤ 1000000 ∧ g.2.2.length ≤ 1000000 := by omega
  have ll : l.length ≤ 1000000 ∧ ∀ f, f ∈ l → f.length ≤ 1000000 := ⟨by omega, fun f hf => by have := v.fl f hf; omega⟩
  have fo := fs_vb v l1
  have hcp := cop_copies ck
  refine forUpGL (n := l.length) (fun _ => True) trivial (fun i hi _ _ I μ hI hw => ?_) (fun _ => ?_)
  · have hI := hI trivial
    simp only [Int.toNat_natCast, hw]
    refine ⟨by omega, by omega, cnd_iff.2 ⟨fun _ => hI, fun h1 => ?_⟩⟩
    have h1 := of_decide_eq_false h1
    have fam := (ck.at' i hi).fam
    have em := cop_may ck hi (by omega)
    refine ⟨g, ⟨lg, rfl⟩, l, ⟨ll, rfl⟩, by omega, by omega, by omega, by omega, l, ⟨ll, rfl⟩, by omega, by omega, _, rfl, fun b => b = false, ?_, ?_⟩
    · simp only [em]
      refine cnd_f' rfl (cnd_f' rfl (cnd_iff.2 ⟨fun _ => ⟨⟨hg, fo⟩, by rw [hcp]; rfl⟩, fun _ => (by first | rfl | trivial)⟩))
    · rintro _ rfl
      exact cnd_f' rfl hI
  have et : truthFn g l f = (truthsF g l f, 0) := by rw [truthFn_eq v ck.fam, if_pos (cop_right ck)]
  have eb : blameFn g l f = ([], 0) := by rw [blameFn_eq v ck.fam, cop_blame ck]
  have ef : familiesFn g l = (((canF g l).length : Int), (canF g l).getD 0 [], 0) := by unfold familiesFn; rw [if_neg (by simp [hck])]
  have eo : originalsFn g l = (numsF (sureF g l) l.length, numsF (mayF g l) l.length, 0) := by unfold originalsFn; rw [if_neg (by simp [hck])]
  have hcl : 0 < (canF g l).length := List.length_pos_iff.2 (canF_ne v)
  obtain ⟨b1, b2, b3, b4, b5, b6⟩ := first_ok ck
  obtain ⟨t1, t2⟩ := truths_len g l f
  have sp := fun i m (hi : i < l.length) (hm : m < 2) => cop_span ck hi hm
  simp only [et, eb, ef, eo]
  generalize truthsF g l f = T at *
  generalize (canF g l).getD 0 [] = fst at *
  refine ⟨lg, ll, by simp only [List.length_nil]; omega, lg, ll, by simp only [List.length_nil]; omega, lg, ll, lg, ll, fun b => b = false, ?_, ?_⟩
  · refine cnd_f' rfl (cnd_f' rfl (cnd_f' rfl (cnd_f' rfl fun _ _ => cnd_f' (by simp [t1]) fun _ => cnd_f' rfl (cnd_f' (decide_eq_false (by omega)) ⟨⟨hg, fo⟩, cnd_f' (by rw [b2]; rfl) ⟨by omega, by omega, cnd_f' (decide_eq_false (by omega)) fun _ => ⟨by omega, cnd_f' (decide_eq_false (by omega)) fun _ => ⟨by omega, decide_eq_false (by omega)⟩⟩⟩⟩))))
  rintro _ rfl
  refine cnd_f' rfl ?_
  refine forUpGL (n := l.length) (fun _ => True) trivial (fun i hi _ _ I μ hI hw => ?_) (fun _ => ?_)
  · refine forLitG (n := 2) rfl (by omega) (fun m hm I2 μ2 hI2 hw2 => ?_) (by rw [hw]; exact hI trivial)
    obtain ⟨s1, s2, s3⟩ := sp i m hi hm
    have t2i := t2 i hi
    have hv := v.fan_v hi (show m < g.1.length by omega)
    have hvl := v.fan hi
    have ho := gg_off hg hm
    simp only [Int.toNat_natCast, hw2]
    simp only [wrapS (x := (l.getD i []).getD m 0 - g.1.getD m 0) (by omega) (by omega), wrapS (x := (l.getD i []).getD m 0 + g.1.getD m 0) (by omega) (by omega)]
    refine ⟨fun b => b = false, ⟨by omega, by omega, cnd_f' (by rw [t2i, l1]; rfl) ⟨by omega, by omega, by omega, by omega, ?_⟩⟩, ?_⟩
    · rcases (by omega : m = 0 ∨ m = 1) with rfl | rfl
      · exact cnd_t' rfl ⟨by omega, by omega, by omega, by omega, true, inB_iff.2 s1, cnd_f' rfl ⟨by omega, by omega, by omega, by omega, by omega, by omega, by omega, by omega, by omega, by omega, cnd_f' (decide_eq_false (by omega)) ⟨by omega, by omega, by omega, by omega, by omega, by omega, by omega, by omega, by omega, by omega, decide_eq_false (by omega)⟩⟩⟩
      · exact cnd_f' rfl (cnd_t' rfl ⟨by omega, by omega, by omega, by omega, true, inB_iff.2 s1, cnd_f' rfl ⟨by omega, by omega, by omega, by omega, by omega, by omega, by omega, by omega, by omega, by omega, cnd_f' (decide_eq_false (by omega)) ⟨by omega, by omega, by omega, by omega, by omega, by omega, by omega, by omega, by omega, by omega, decide_eq_false (by omega)⟩⟩⟩)
    · rintro _ rfl
      exact cnd_f' rfl hI2
  refine forUpGL (n := (numsF (sureF g l) l.length).length) (fun _ => True) trivial (fun i hi _ _ I μ hI hw => ?_) (fun _ => h)
  obtain ⟨j, hj, hs, ej⟩ := numsF_mem.1 (getD_mem (d := (0 : Int)) hi)
  have hone := b6 j hj hs
  simp only [Int.toNat_natCast, hw, ej]
  refine ⟨fun b => b = false, ⟨by omega, by omega, cnd_f' (decide_eq_false (by omega)) ⟨by omega, by omega, fun _ => cnd_f' (decide_eq_false (by omega)) ⟨by omega, by omega, by omega, by omega, by rw [hone]; rfl⟩⟩⟩, ?_⟩
  rintro _ rfl
  exact cnd_f' rfl (hI trivial)
end Go.Proofs.Tw
set_option maxRecDepth 100000
namespace Go.Proofs.Tw
open Go Go.GX Go.Proofs

theorem ok16 : CallsOK Tryd.prog (assoc glT) 16 f16_ct :=
  callsOK_mk [] st_ok mk_ok in_ok (AllOK.cons ok45 (AllOK.cons ok52 (AllOK.cons ok47 (AllOK.cons ok48o (AllOK.cons ok58 (AllOK.cons ok53 (AllOK.cons ok37 (AllOK.cons ok41 (AllOK.cons ok54 (AllOK.cons ok60 (AllOK.cons ok56 (AllOK.cons ok49 (AllOK.cons ok18 AllOK.nil))))))))))))) f16_an Tryd.func16 (by kernel_rfl) (by kernel_rfl) f16_ct fun x _ Q h => (v16 x Q).mp (p16 h)
end Go.Proofs.Tw
set_option maxRecDepth 100000
set_option linter.unusedVariables false
namespace Go.Proofs.Tw
open Go Go.GX Go.Proofs Go.ChangeShapes Go.WideShapes Go.ChangeAt Go.RowKit
open Go.Proofs.YtnhgfmegaoibeaaDoor
theorem lifted16 (ok : CallsOK Tryd.prog (assoc glT) 16 f16_ct) (os : Os) (started : os.Started) (H : Type) (enc : TypeId × Value → H) :
    ReturnsInHanded {} Tryd.checked os 16 .any (fun w args => (Rows.twinCopiedSpec.pre enc Tryd.prog Tryd.f16 Rows.twinCopiedRow.domain false w args ∧ laidMetH Tryd.prog Rows.twinCopiedRow.laid w) ∧ sizedMet enc Tryd.prog Tryd.f16 (OpenSpec.ofChange Rows.twinCopiedSpec) false w args)
      (Rows.twinCopiedSpec.post enc Tryd.prog Tryd.f16 false true false false) := by
  refine returnsInHanded_of_change_and (C := Tryd.checked) (X := fun w _ => laidMetH Tryd.prog Rows.twinCopiedRow.laid w) (fun _ _ _ hh h => h.of_heap hh) own9 started (by kernel_rfl) Tryd.func16
    (ChangeSpec.witness_shaped (enc := enc) (C := Tryd.checked) (os := os) (X := fun w _ => laidMetH Tryd.prog Rows.twinCopiedRow.laid w) false (World.laidAll Tryd.prog os Rows.twinCopiedRow.laid) #[.agg #[.int .u8 0, .int .u8 0, .int .u8 0, .int .u8 0, .int .u8 0, .int .u8 0, .slice none 0 0]] 8 (World.laidAll_os _ _ _)
      (World.shaped_of_ZipB (by kernel_rfl) (by kernel_rfl)) (by kernel_rfl) (by kernel_rfl) (by kernel_rfl)
      (by rw [MakeChecks.laidMetH_plain _ _ _ (by kernel_rfl)]; exact laidMet_laidAll _ (by kernel_rfl) (by kernel_rfl))) ?_
  intro W base args ds gs before hval0 hW hc _ hL _
  have hval : ∀ (j : Nat) t v, Tryd.f16.params[j]? = some t → args[j]? = some v → Value.okWide Tryd.prog W .any base t v := hval0
  have hW' := hW
  obtain ⟨p, q, hA0, hV, rfl, hfz, hnd⟩ := hW
  have hA : DataW.TrodAll enc Tryd.prog W 0 (fun _ => true) true Tryd.f16.params.toList args.toList ds p := hA0
  rw [Tryd.params16] at hA hval
  obtain ⟨v0, d0, rfl, rfl, h0⟩ := trodAll_one hA
  obtain ⟨rfl, rfl⟩ := trodVars_none hV
  simp only [List.append_nil] at hW'
  refine (lawB rfl ok hL (hval 0 71 v0 rfl rfl) h0).mono fun e W' ⟨he, hb⟩ => ?_
  subst he
  have hlt0 : ∀ x ∈ p, x.block < W.heap.size := fun x hx => by simpa using hW'.lt x (by simp [hx])
  refine ⟨_, rfl, _, _, _, [], p, [], hW', ?_, ?_, rfl, hb.frame _, fun h => by cases h⟩
  · exact trodAll_mk1 (shut_bool (by kernel_rfl) _)
  · exact trodAll_mk1 (Below.trod laidOut9 (by kernel_rfl) (of_decide_eq_true (by kernel_rfl)) h0 hb hlt0)
theorem holds16 (ok : CallsOK Tryd.prog (assoc glT) 16 f16_ct) : Rows.TwinCopiedSaid :=
  OpenClaim.holds_of_wide 16 Tryd.f16 rfl rfl rfl rfl rfl rfl rfl ⟨rfl, rfl, rfl, rfl, rfl⟩ rfl rfl rfl rfl rfl (by kernel_rfl) Tryd.func16 (by kernel_rfl)
    (of_decide_eq_true (by kernel_rfl)) (by unfold Func.isWrapper; first | (rw [if_pos (by decide +kernel)]; kernel_rfl) | (rw [if_neg (by decide +kernel)]; exact ⟨rfl, rfl⟩))
    (fun os started H enc _ => lifted16 ok os started H enc)
end Go.Proofs.Tw
