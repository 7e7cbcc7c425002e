/- Part 9 of the texts behind the proof: TwBr9, TwV18, TwM14, TwM15, TwP28a, TwP30, TwO12, TwR10. -/
import Derived.Test.YtnhgfmegaoibeaaDoorG08
import Derived.Test.YtnhgfmegaoibeaaDoorProg
import Derived.SevenTiedAt
set_option linter.unusedSimpArgs false
set_option linter.unusedVariables false
set_option maxRecDepth 100000
set_option linter.unusedVariables false
namespace Go.Proofs.Tw
open Go Go.GX Go.Proofs Go.ChangeShapes Go.WideShapes Go.ChangeAt Go.RowKit
open Go.Proofs.YtnhgfmegaoibeaaDoor
section
variable {H : Type} {enc : TypeId × Value → H} {W : World} {base b0 : Nat} {spare : Nat → Bool} {held : Bool} {v : Value} {d : DataW H} {p : List MemPlace}
theorem okWide_array {P : Program} {w : World} {r : Reach} {base : Nat} {t e : TypeId} {n : Nat} {v : Value} (ht : P.underlying t = some (.array n e)) (h : Value.okWide P w r base t v) : ∃ cs, v = .agg cs := by
  simp only [Value.okWide, ht] at h
  obtain ⟨cs, hv, _⟩ := h
  exact ⟨cs, hv⟩
theorem argR {K : Kd} {t : TypeId} (hf : fitK Tryd.prog K (.ty t) = true) {cs : List Value} (h : ∃ fuel x, DataW.trod enc Tryd.prog W base spare held fuel t cs = some x) :
    ∃ x : K.T, (K.sem Tryd.prog).cells (fun _ => False) W x cs ∧ K.rng x := by
  obtain ⟨fuel, d, h⟩ := h
  exact fit_rng K (.ty t) cs hf ⟨fuel, d, h⟩ (fun _ _ h => by cases h)
theorem arg_aggR {K : Kd} {t : TypeId} {fs : Array Field} (hu : Tryd.prog.underlying t = some (.struct fs)) (hf : fitK Tryd.prog (.agg K) (.ty t) = true) (hv : Value.okWide Tryd.prog W .any b0 t v) (h : DataW.Trod enc Tryd.prog W base spare held t v d p) :
    ∃ x : K.T, ((Kd.agg K).sem Tryd.prog).val (fun _ => False) W x v ∧ K.rng x := by
  obtain ⟨cs, rfl, _⟩ := okWide_struct hu hv
  obtain ⟨fuel, h⟩ := h
  obtain ⟨x, hx, hr⟩ := argR (K := .agg K) hf ⟨fuel, _, h⟩
  exact ⟨x, ⟨cs.toList, by simp, hx⟩, hr⟩
theorem arg_arrR {K : Kd} {t e : TypeId} {n : Nat} (hu : Tryd.prog.underlying t = some (.array n e)) (hf : fitK Tryd.prog (.agg K) (.ty t) = true) (hv : Value.okWide Tryd.prog W .any b0 t v) (h : DataW.Trod enc Tryd.prog W base spare held t v d p) :
    ∃ x : K.T, ((Kd.agg K).sem Tryd.prog).val (fun _ => False) W x v ∧ K.rng x := by
  obtain ⟨cs, rfl⟩ := okWide_array hu hv
  obtain ⟨fuel, h⟩ := h
  obtain ⟨x, hx, hr⟩ := argR (K := .agg K) hf ⟨fuel, _, h⟩
  exact ⟨x, ⟨cs.toList, by simp, hx⟩, hr⟩
theorem arg_slR {K : Kd} {e' : TypeId} {t e : TypeId} (hu : Tryd.prog.underlying t = some (.slice e)) (hf : fitK Tryd.prog (.sl e' K) (.ty t) = true) (hv : Value.okWide Tryd.prog W .any b0 t v) (h : DataW.Trod enc Tryd.prog W base spare held t v d p) :
    ∃ x : List K.T, ((Kd.sl e' K).sem Tryd.prog).val (fun _ => False) W x v ∧ ∀ y, y ∈ x → K.rng y := by
  obtain ⟨a, n, c, rfl⟩ := okWide_slice hu hv
  obtain ⟨fuel, h⟩ := h
  obtain ⟨x, ⟨v', he, hr⟩, hg⟩ := argR (K := .sl e' K) hf ⟨fuel, _, h⟩
  have he : [Value.slice a n c] = [v'] := he
  cases he
  exact ⟨x, hr.2, hg⟩
theorem arg_intR {k : IntKind} {t : TypeId} (hu : Tryd.prog.underlying t = some (.int k)) (hf : fitK Tryd.prog (.int k) (.ty t) = true) (hv : Value.okWide Tryd.prog W .any b0 t v) (h : DataW.Trod enc Tryd.prog W base spare held t v d p) :
    ∃ x : Int, ((Kd.int k).sem Tryd.prog).val (fun _ => False) W x v ∧ (Lit.int k x).wf = true := by
  obtain ⟨n, rfl⟩ := okWide_int hu hv
  obtain ⟨fuel, h⟩ := h
  obtain ⟨x, ⟨v', he, hr⟩, hg⟩ := argR (K := .int k) hf ⟨fuel, _, h⟩
  have he : [Value.int k n] = [v'] := he
  cases he
  exact ⟨x, hr.2, hg⟩
end
theorem byte_wf {x : Int} (h : (Lit.int .u8 x).wf = true) : byteB x := by
  have h1 : IntKind.u8.min = 0 := rfl
  have h2 : IntKind.u8.max = 255 := rfl
  simp only [Lit.wf, h1, h2, Bool.and_eq_true, decide_eq_true_eq] at h
  exact h
theorem gd_rng {x : Gauged} (h : Kd.rng (.pair kA4 (.pair kA2 (.sl 67 kA4))) x) : GdOK x := by
  obtain ⟨⟨h1, h2, h3, h4⟩, ⟨h5, h6⟩, h7⟩ := h
  refine ⟨⟨byte_wf h1, byte_wf h2, byte_wf h3, byte_wf h4⟩, ⟨byte_wf h5, byte_wf h6⟩, fun v hv => ?_⟩
  obtain ⟨k1, k2, k3, k4⟩ := h7 v hv
  exact ⟨byte_wf k1, byte_wf k2, byte_wf k3, byte_wf k4⟩
theorem u71 : ∃ fs, Tryd.prog.underlying 71 = some (.struct fs) := ⟨_, rfl⟩
theorem fit71 : fitK Tryd.prog kGd (.ty 71) = true := by kernel_rfl
theorem u68 : Tryd.prog.underlying 68 = some (.array 2 5) := by kernel_rfl
theorem fit68 : fitK Tryd.prog kA2 (.ty 68) = true := by kernel_rfl
theorem u83 : Tryd.prog.underlying 83 = some (.slice 68) := by kernel_rfl
theorem fit83 : fitK Tryd.prog (.sl 68 kA2) (.ty 83) = true := by kernel_rfl
theorem u5 : Tryd.prog.underlying 5 = some (.int .u8) := by kernel_rfl
theorem fit5 : fitK Tryd.prog kU8 (.ty 5) = true := by kernel_rfl

theorem lawB {f : FuncId} {ct : Ct} (hA : ct = ⟨kGd, .unit, .bool, fun x _ Q => GdOK x ∧ Q true, false, false⟩) (ok : CallsOK Tryd.prog (assoc glT) f ct) {H : Type} {enc : TypeId × Value → H} {W : World} {base b0 : Nat} {spare : Nat → Bool} {held : Bool} {v0 : Value} {d0 : DataW H} {p0 : List MemPlace}
    (hl : laidMetH Tryd.prog [("panache/twin.anything", Rows.laid_panache_twin_anything)] W) (o0 : Value.okWide Tryd.prog W .any b0 71 v0) (h0 : DataW.Trod enc Tryd.prog W base spare held 71 v0 d0 p0) :
    Calls Tryd.prog f #[v0] W fun e W' => e = .returned (.bool true) ∧ Below W.heap.size W W' := by
  subst hA
  obtain ⟨fs, hu⟩ := u71
  obtain ⟨x, ⟨cs, rfl, hx⟩, hr⟩ := arg_aggR hu fit71 o0 h0
  have := ok.calls (fun _ => False) W x () [.agg cs.toArray] [] (fun _ h => h.elim) (laid_glb hl) ⟨cs, rfl, hx⟩ rfl (fun r => r = true) ⟨gd_rng hr, rfl⟩
  refine this.mono fun e W' h => ?_
  obtain ⟨r, v, he, hv, hb, hr⟩ := h
  have hv : v = .bool r := hv
  subst hr
  exact ⟨by rw [he, hv], hb⟩
theorem lawBAB {f : FuncId} {ct : Ct} (hA : ct = ⟨arg3 kGd kA2 kU8, .unit, .bool, fun a _ Q => (GdOK a.1 ∧ (byteB a.2.1.1 ∧ byteB a.2.1.2) ∧ byteB a.2.2.1) ∧ Q true, false, false⟩) (ok : CallsOK Tryd.prog (assoc glT) f ct) {H : Type} {enc : TypeId × Value → H} {W : World} {base b0 b1 b2 : Nat} {spare : Nat → Bool} {held : Bool} {v0 v1 v2 : Value} {d0 d1 d2 : DataW H} {p0 p1 p2 : List MemPlace}
    (hl : laidMetH Tryd.prog [("panache/twin.anything", Rows.laid_panache_twin_anything)] W) (o0 : Value.okWide Tryd.prog W .any b0 71 v0) (h0 : DataW.Trod enc Tryd.prog W base spare held 71 v0 d0 p0) (o1 : Value.okWide Tryd.prog W .any b1 68 v1) (h1 : DataW.Trod enc Tryd.prog W base spare held 68 v1 d1 p1) (o2 : Value.okWide Tryd.prog W .any b2 5 v2) (h2 : DataW.Trod enc Tryd.prog W base spare held 5 v2 d2 p2) :
    Calls Tryd.prog f #[v0, v1, v2] W fun e W' => e = .returned (.bool true) ∧ Below W.heap.size W W' := by
  subst hA
  obtain ⟨fs, hu⟩ := u71
  obtain ⟨x, hx, hr⟩ := arg_aggR hu fit71 o0 h0
  obtain ⟨y, hy, hs⟩ := arg_arrR u68 fit68 o1 h1
  obtain ⟨z, hz, ht⟩ := arg_intR u5 fit5 o2 h2
  have := ok.calls (fun _ => False) W (x, y, z, ()) () [v0, v1, v2] [] (fun _ h => h.elim) (laid_glb hl) ⟨v0, [v1, v2], rfl, hx, v1, [v2], rfl, hy, v2, [], rfl, hz, rfl⟩ rfl (fun r => r = true) ⟨⟨gd_rng hr, ⟨byte_wf hs.1, byte_wf hs.2⟩, byte_wf ht⟩, rfl⟩
  refine this.mono fun e W' h => ?_
  obtain ⟨r, v, he, hv, hb, hr⟩ := h
  have hv : v = .bool r := hv
  subst hr
  exact ⟨by rw [he, hv], hb⟩
theorem lawBA {f : FuncId} {ct : Ct} (hA : ct = ⟨arg2 kGd kA2, .unit, .bool, fun a _ Q => (GdOK a.1 ∧ byteB a.2.1.1 ∧ byteB a.2.1.2) ∧ Q true, false, false⟩) (ok : CallsOK Tryd.prog (assoc glT) f ct) {H : Type} {enc : TypeId × Value → H} {W : World} {base b0 b1 : Nat} {spare : Nat → Bool} {held : Bool} {v0 v1 : Value} {d0 d1 : DataW H} {p0 p1 : List MemPlace}
    (hl : laidMetH Tryd.prog [("panache/twin.anything", Rows.laid_panache_twin_anything)] W) (o0 : Value.okWide Tryd.prog W .any b0 71 v0) (h0 : DataW.Trod enc Tryd.prog W base spare held 71 v0 d0 p0) (o1 : Value.okWide Tryd.prog W .any b1 68 v1) (h1 : DataW.Trod enc Tryd.prog W base spare held 68 v1 d1 p1) :
    Calls Tryd.prog f #[v0, v1] W fun e W' => e = .returned (.bool true) ∧ Below W.heap.size W W' := by
  subst hA
  obtain ⟨fs, hu⟩ := u71
  obtain ⟨x, hx, hr⟩ := arg_aggR hu fit71 o0 h0
  obtain ⟨y, hy, hs⟩ := arg_arrR u68 fit68 o1 h1
  have := ok.calls (fun _ => False) W (x, y, ()) () [v0, v1] [] (fun _ h => h.elim) (laid_glb hl) ⟨v0, [v1], rfl, hx, v1, [], rfl, hy, rfl⟩ rfl (fun r => r = true) ⟨⟨gd_rng hr, byte_wf hs.1, byte_wf hs.2⟩, rfl⟩
  refine this.mono fun e W' h => ?_
  obtain ⟨r, v, he, hv, hb, hr⟩ := h
  have hv : v = .bool r := hv
  subst hr
  exact ⟨by rw [he, hv], hb⟩
theorem lawBB {f : FuncId} {ct : Ct} (hA : ct = ⟨arg2 kGd kU8, .unit, .bool, fun a _ Q => (GdOK a.1 ∧ byteB a.2.1) ∧ Q true, false, false⟩) (ok : CallsOK Tryd.prog (assoc glT) f ct) {H : Type} {enc : TypeId × Value → H} {W : World} {base b0 b1 : Nat} {spare : Nat → Bool} {held : Bool} {v0 v1 : Value} {d0 d1 : DataW H} {p0 p1 : List MemPlace}
    (hl : laidMetH Tryd.prog [("panache/twin.anything", Rows.laid_panache_twin_anything)] W) (o0 : Value.okWide Tryd.prog W .any b0 71 v0) (h0 : DataW.Trod enc Tryd.prog W base spare held 71 v0 d0 p0) (o1 : Value.okWide Tryd.prog W .any b1 5 v1) (h1 : DataW.Trod enc Tryd.prog W base spare held 5 v1 d1 p1) :
    Calls Tryd.prog f #[v0, v1] W fun e W' => e = .returned (.bool true) ∧ Below W.heap.size W W' := by
  subst hA
  obtain ⟨fs, hu⟩ := u71
  obtain ⟨x, hx, hr⟩ := arg_aggR hu fit71 o0 h0
  obtain ⟨y, hy, hs⟩ := arg_intR u5 fit5 o1 h1
  have := ok.calls (fun _ => False) W (x, y, ()) () [v0, v1] [] (fun _ h => h.elim) (laid_glb hl) ⟨v0, [v1], rfl, hx, v1, [], rfl, hy, rfl⟩ rfl (fun r => r = true) ⟨⟨gd_rng hr, byte_wf hs⟩, rfl⟩
  refine this.mono fun e W' h => ?_
  obtain ⟨r, v, he, hv, hb, hr⟩ := h
  have hv : v = .bool r := hv
  subst hr
  exact ⟨by rw [he, hv], hb⟩
theorem lawBSB {f : FuncId} {ct : Ct} (hA : ct = ⟨arg3 kGd (.sl 68 kA2) kU8, .unit, .bool, fun a _ Q => (GdOK a.1 ∧ (∀ y : Int × Int, y ∈ (show List (Int × Int) from a.2.1) → byteB y.1 ∧ byteB y.2) ∧ byteB a.2.2.1) ∧ Q true, false, false⟩) (ok : CallsOK Tryd.prog (assoc glT) f ct) {H : Type} {enc : TypeId × Value → H} {W : World} {base b0 b1 b2 : Nat} {spare : Nat → Bool} {held : Bool} {v0 v1 v2 : Value} {d0 d1 d2 : DataW H} {p0 p1 p2 : List MemPlace}
    (hl : laidMetH Tryd.prog [("panache/twin.anything", Rows.laid_panache_twin_anything)] W) (o0 : Value.okWide Tryd.prog W .any b0 71 v0) (h0 : DataW.Trod enc Tryd.prog W base spare held 71 v0 d0 p0) (o1 : Value.okWide Tryd.prog W .any b1 83 v1) (h1 : DataW.Trod enc Tryd.prog W base spare held 83 v1 d1 p1) (o2 : Value.okWide Tryd.prog W .any b2 5 v2) (h2 : DataW.Trod enc Tryd.prog W base spare held 5 v2 d2 p2) :
    Calls Tryd.prog f #[v0, v1, v2] W fun e W' => e = .returned (.bool true) ∧ Below W.heap.size W W' := by
  subst hA
  obtain ⟨fs, hu⟩ := u71
  obtain ⟨x, hx, hr⟩ := arg_aggR hu fit71 o0 h0
  obtain ⟨y, hy, hs⟩ := arg_slR u83 fit83 o1 h1
  obtain ⟨z, hz, ht⟩ := arg_intR u5 fit5 o2 h2
  have := ok.calls (fun _ => False) W (x, y, z, ()) () [v0, v1, v2] [] (fun _ h => h.elim) (laid_glb hl) ⟨v0, [v1, v2], rfl, hx, v1, [v2], rfl, hy, v2, [], rfl, hz, rfl⟩ rfl (fun r => r = true) ⟨⟨gd_rng hr, fun y hy => ⟨byte_wf (hs y hy).1, byte_wf (hs y hy).2⟩, byte_wf ht⟩, rfl⟩
  refine this.mono fun e W' h => ?_
  obtain ⟨r, v, he, hv, hb, hr⟩ := h
  have hv : v = .bool r := hv
  subst hr
  exact ⟨by rw [he, hv], hb⟩
end Go.Proofs.Tw
set_option linter.unusedVariables false
set_option maxRecDepth 100000
namespace Go.Proofs.Tw
open Go Go.GX Go.Proofs

def V10 (x : (Int × Int × Int × Int) × (Int × Int) × List (Int × Int × Int × Int)) (wrong : List (Int × Int)) (some : Int) (Q : Bool → Prop) : Prop := f45_wp ((Prod.fst (Prod.fst x), Prod.fst (Prod.snd (Prod.fst x)), Prod.fst (Prod.snd (Prod.snd (Prod.fst x))), Prod.snd (Prod.snd (Prod.snd (Prod.fst x)))), (Prod.fst (Prod.fst (Prod.snd x)), Prod.snd (Prod.fst (Prod.snd x))), Prod.snd (Prod.snd x)) () fun (r : List Int × List Int × List (Int × Int)) ↦ f46_wp (((Prod.fst (Prod.fst x), Prod.fst (Prod.snd (Prod.fst x)), Prod.fst (Prod.snd (Prod.snd (Prod.fst x))), Prod.snd (Prod.snd (Prod.snd (Prod.fst x)))), (Prod.fst (Prod.fst (Prod.snd x)), Prod.snd (Prod.fst (Prod.snd x))), Prod.snd (Prod.snd x)), (Prod.fst r, Prod.fst (Prod.snd r), Prod.snd (Prod.snd r)), ()) () fun (r_1 : List (List Int) × List (Int × Int) × (Int × Int) × Unit) ↦ ∃ (I : Int → Int → List (List Int) → Prop), ∃ (μ : Int → Int → List (List Int) → Nat), I (0 : Int) (0 : Int) (List.map (fun (xs : List Int) ↦ xs) (Prod.fst r_1)) ∧ ∀ (x x_1 : Int) (x_2 : List (List Int)), I x x_1 x_2 → List.length wrong ≤ (9223372036854775807 : Nat) → cnd (decide (x < (↑(List.length wrong) : Int))) (cnd (decide (x < (3 : Int))) (List.length (List.map (fun (x : List Int) ↦ x) x_2) ≤ (9223372036854775807 : Nat) → cnd (decide ((↑(List.length (List.map (fun (x : List Int) ↦ x) x_2)) : Int) > (0 : Int))) ((0 : Int) ≤ x ∧ x < (↑(List.length wrong) : Int) ∧ (↑(List.length (List.map (fun (x : List Int) ↦ x) x_2)) : Int) ≠ (0 : Int) ∧ (0 : Int) ≤ Int.tmod (IntKind.wrap IntKind.i64 (Prod.fst (List.getD wrong (Int.toNat x) ((0 : Int), (0 : Int))))) (↑(List.length (List.map (fun (x : List Int) ↦ x) x_2)) : Int) ∧ Int.tmod (IntKind.wrap IntKind.i64 (Prod.fst (List.getD wrong (Int.toNat x) ((0 : Int), (0 : Int))))) (↑(List.length (List.map (fun (x : List Int) ↦ x) x_2)) : Int) < (↑(List.length x_2) : Int) ∧ (0 : Int) ≤ x ∧ x < (↑(List.length wrong) : Int) ∧ (8 : Int) ≠ (0 : Int) ∧ (2 : Int) ≠ (0 : Int) ∧ (0 : Int) ≤ x ∧ x < (↑(List.length wrong) : Int) ∧ (0 : Int) ≤ Int.tmod (IntKind.wrap IntKind.i64 (Int.tdiv (IntKind.wrap IntKind.i64 (Prod.fst (List.getD wrong (Int.toNat x) ((0 : Int), (0 : Int))))) (8 : Int))) (2 : Int) ∧ Int.tmod (IntKind.wrap IntKind.i64 (Int.tdiv (IntKind.wrap IntKind.i64 (Prod.fst (List.getD wrong (Int.toNat x) ((0 : Int), (0 : Int))))) (8 : Int))) (2 : Int) < (↑(List.length (List.getD x_2 (Int.toNat (Int.tmod (IntKind.wrap IntKind.i64 (Prod.fst (List.getD wrong (Int.toNat x) ((0 : Int), (0 : Int))))) (↑(List.length (List.map (fun (x : List Int) ↦ x) x_2)) : Int))) ([] : List Int))) : Int) ∧ I (IntKind.wrap IntKind.i64 (x + (1 : Int))) (IntKind.wrap IntKind.i64 (x_1 + (1 : Int))) (List.map (fun (xs : List Int) ↦ xs) (List.set x_2 (Int.toNat (Int.tmod (IntKind.wrap IntKind.i64 (Prod.fst (List.getD wrong (Int.toNat x) ((0 : Int), (0 : Int))))) (↑(List.length (List.map (fun (x : List Int) ↦ x) x_2)) : Int))) (List.set (List.getD x_2 (Int.toNat (Int.tmod (IntKind.wrap IntKind.i64 (Prod.fst (List.getD wrong (Int.toNat x) ((0 : Int), (0 : Int))))) (↑(List.length (List.map (fun (x : List Int) ↦ x) x_2)) : Int))) ([] : List Int)) (Int.toNat (Int.tmod (IntKind.wrap IntKind.i64 (Int.tdiv (IntKind.wrap IntKind.i64 (Prod.fst (List.getD wrong (Int.toNat x) ((0 : Int), (0 : Int))))) (8 : Int))) (2 : Int))) (IntKind.wrap IntKind.i64 ((2 : Int) * IntKind.wrap IntKind.i64 (Prod.snd (List.getD wrong (Int.toNat x) ((0 : Int), (0 : Int))))))))) ∧ μ (IntKind.wrap IntKind.i64 (x + (1 : Int))) (IntKind.wrap IntKind.i64 (x_1 + (1 : Int))) (List.map (fun (xs : List Int) ↦ xs) (List.set x_2 (Int.toNat (Int.tmod (IntKind.wrap IntKind.i64 (Prod.fst (List.getD wrong (Int.toNat x) ((0 : Int), (0 : Int))))) (↑(List.length (List.map (fun (x : List Int) ↦ x) x_2)) : Int))) (List.set (List.getD x_2 (Int.toNat (Int.tmod (IntKind.wrap IntKind.i64 (Prod.fst (List.getD wrong (Int.toNat x) ((0 : Int), (0 : Int))))) (↑(List.length (List.map (fun (x : List Int) ↦ x) x_2)) : Int))) ([] : List Int)) (Int.toNat (Int.tmod (IntKind.wrap IntKind.i64 (Int.tdiv (IntKind.wrap IntKind.i64 (Prod.fst (List.getD wrong (Int.toNat x) ((0 : Int), (0 : Int))))) (8 : Int))) (2 : Int))) (IntKind.wrap IntKind.i64 ((2 : Int) * IntKind.wrap IntKind.i64 (Prod.snd (List.getD wrong (Int.toNat x) ((0 : Int), (0 : Int))))))))) < μ x x_1 x_2) (f47_wp (Prod.fst r, Prod.fst (Prod.snd r), Prod.snd (Prod.snd r)) () fun (r_2 : List Int × List Int × List (Int × Int)) ↦ f48_wp (List.map (fun (x : List Int) ↦ x) x_2) () fun (r_3 : List (List Int)) ↦ f34_wp ((Prod.fst r_2, Prod.fst (Prod.snd r_2), Prod.snd (Prod.snd r_2)), r_3, ()) () fun (r_4 : List (Int × Int) × Int × Unit) ↦ cnd (Prod.fst (Prod.snd r_4) == (6 : Int)) (List.length (Prod.fst r_4) ≤ (9223372036854775807 : Nat) → cnd (decide ((↑(List.length (Prod.fst r_4)) : Int) > (0 : Int))) (Q false) (f50_wp ((Prod.fst r, Prod.fst (Prod.snd r), Prod.snd (Prod.snd r)), List.map (fun (x : List Int) ↦ x) x_2, ([] : List (Int × Int)), ()) () fun (r_5 : Bool) ↦ cnd (!r_5) (Q false) (cnd (Prod.fst (Prod.snd r_4) != (6 : Int)) (cnd (Prod.fst (Prod.snd r_4) != (0 : Int)) (Q false) (List.length (Prod.fst r_4) ≤ (9223372036854775807 : Nat) → cnd ((↑(List.length (Prod.fst r_4)) : Int) == (0 : Int)) (Q false) (List.length (Prod.fst r_4) ≤ (9223372036854775807 : Nat) → cnd (decide ((↑(List.length (Prod.fst r_4)) : Int) > x_1)) (Q false) (List.length (List.map (fun (x : List Int) ↦ x) x_2) ≤ (9223372036854775807 : Nat) → f51_wp (Prod.fst r_4, (↑(List.length (List.map (fun (x : List Int) ↦ x) x_2)) : Int), ()) () fun (r_6 : Bool) ↦ cnd (!r_6) (Q false) (f50_wp ((Prod.fst r, Prod.fst (Prod.snd r), Prod.snd (Prod.snd r)), List.map (fun (x : List Int) ↦ x) x_2, Prod.fst r_4, ()) () fun (r_7 : Bool) ↦ cnd (!r_7) (Q false) (∃ (I : Int → Prop), ∃ (μ : Int → Nat), I (0 : Int) ∧ ∀ (x : Int), I x → List.length (Prod.fst r_4) ≤ (9223372036854775807 : Nat) → cnd (decide (x < (↑(List.length (Prod.fst r_4)) : Int))) ((0 : Int) ≤ (0 : Int) ∧ (0 : Int) ≤ x ∧ x ≤ (↑(List.length (Prod.fst r_4)) : Int) ∧ (List.length ([] : List (Int × Int)) + List.length (List.drop (Int.toNat (0 : Int)) (List.take (Int.toNat x) (Prod.fst r_4)))) * (16 : Nat) ≤ (140737488355328 : Nat) ∧ (0 : Int) ≤ IntKind.wrap IntKind.i64 (x + (1 : Int)) ∧ IntKind.wrap IntKind.i64 (x + (1 : Int)) ≤ (↑(List.length (Prod.fst r_4)) : Int) ∧ (↑(List.length (Prod.fst r_4)) : Int) ≤ (↑(List.length (Prod.fst r_4)) : Int) ∧ (List.length (([] : List (Int × Int)) ++ List.drop (Int.toNat (0 : Int)) (List.take (Int.toNat x) (Prod.fst r_4))) + List.length (List.drop (Int.toNat (IntKind.wrap IntKind.i64 (x + (1 : Int)))) (List.take (Int.toNat (↑(List.length (Prod.fst r_4)) : Int)) (Prod.fst r_4)))) * (16 : Nat) ≤ (140737488355328 : Nat) ∧ ∃ (r_8 : Bool), (f50_wp ((Prod.fst r, Prod.fst (Prod.snd r), Prod.snd (Prod.snd r)), List.map (fun (x : List Int) ↦ x) x_2, ([] : List (Int × Int)) ++ List.drop (Int.toNat (0 : Int)) (List.take (Int.toNat x) (Prod.fst r_4)) ++ List.drop (Int.toNat (IntKind.wrap IntKind.i64 (x + (1 : Int)))) (List.take (Int.toNat (↑(List.length (Prod.fst r_4)) : Int)) (Prod.fst r_4)), ()) () fun (r' : Bool) ↦ r' = r_8) ∧ cnd r_8 (Q false) (I (IntKind.wrap IntKind.i64 (x + (1 : Int))) ∧ μ (IntKind.wrap IntKind.i64 (x + (1 : Int))) < μ x)) (f47_wp (Prod.fst r, Prod.fst (Prod.snd r), Prod.snd (Prod.snd r)) () fun (r_8 : List Int × List Int × List (Int × Int)) ↦ f48_wp (List.map (fun (x : List Int) ↦ x) x_2) () fun (r_9 : List (List Int)) ↦ f29_wp ((Prod.fst r_8, Prod.fst (Prod.snd r_8), Prod.snd (Prod.snd r_8)), r_9, ()) () fun (r_10 : List Int × Int × Unit) ↦ ∃ (I : Int → List (List Int) → Prop), ∃ (μ : Int → List (List Int) → Nat), I (0 : Int) ([] : List (List Int)) ∧ ∀ (x : Int) (x_3 : List (List Int)), I x x_3 → List.length (Prod.fst r_10) ≤ (9223372036854775807 : Nat) → cnd (decide (x < (↑(List.length (Prod.fst r_10)) : Int))) ((0 : Int) ≤ x ∧ x < (↑(List.length (Prod.fst r_10)) : Int) ∧ cnd (decide (List.getD (Prod.fst r_10) (Int.toNat x) (0 : Int) < (0 : Int))) (Q false) ((0 : Int) ≤ x ∧ x < (↑(List.length (Prod.fst r_10)) : Int) ∧ cnd (decide (List.getD (Prod.fst r_10) (Int.toNat x) (0 : Int) ≥ (↑(List.length (List.map (fun (x : List Int) ↦ x) x_2)) : Int))) (Q false) (cnd (decide (x > (0 : Int))) ((0 : Int) ≤ x ∧ x < (↑(List.length (Prod.fst r_10)) : Int) ∧ (0 : Int) ≤ IntKind.wrap IntKind.i64 (x - (1 : Int)) ∧ IntKind.wrap IntKind.i64 (x - (1 : Int)) < (↑(List.length (Prod.fst r_10)) : Int) ∧ cnd (decide (List.getD (Prod.fst r_10) (Int.toNat x) (0 : Int) ≤ List.getD (Prod.fst r_10) (Int.toNat (IntKind.wrap IntKind.i64 (x - (1 : Int)))) (0 : Int))) (Q false) ((0 : Int) ≤ x ∧ x < (↑(List.length (Prod.fst r_10)) : Int) ∧ (0 : Int) ≤ List.getD (Prod.fst r_10) (Int.toNat x) (0 : Int) ∧ List.getD (Prod.fst r_10) (Int.toNat x) (0 : Int) < (↑(List.length (List.map (fun (x : List Int) ↦ x) x_2)) : Int) ∧ (List.length x_3 + List.length (List.getD (List.map (fun (x : List Int) ↦ x) x_2) (Int.toNat (List.getD (Prod.fst r_10) (Int.toNat x) (0 : Int))) ([] : List Int) :: ([] : List (List Int)))) * (24 : Nat) ≤ (140737488355328 : Nat) ∧ I (IntKind.wrap IntKind.i64 (x + (1 : Int))) (x_3 ++ List.getD (List.map (fun (x : List Int) ↦ x) x_2) (Int.toNat (List.getD (Prod.fst r_10) (Int.toNat x) (0 : Int))) ([] : List Int) :: ([] : List (List Int))) ∧ μ (IntKind.wrap IntKind.i64 (x + (1 : Int))) (x_3 ++ List.getD (List.map (fun (x : List Int) ↦ x) x_2) (Int.toNat (List.getD (Prod.fst r_10) (Int.toNat x) (0 : Int))) ([] : List Int) :: ([] : List (List Int))) < μ x x_3)) ((0 : Int) ≤ x ∧ x < (↑(List.length (Prod.fst r_10)) : Int) ∧ (0 : Int) ≤ List.getD (Prod.fst r_10) (Int.toNat x) (0 : Int) ∧ List.getD (Prod.fst r_10) (Int.toNat x) (0 : Int) < (↑(List.length (List.map (fun (x : List Int) ↦ x) x_2)) : Int) ∧ (List.length x_3 + List.length (List.getD (List.map (fun (x : List Int) ↦ x) x_2) (Int.toNat (List.getD (Prod.fst r_10) (Int.toNat x) (0 : Int))) ([] : List Int) :: ([] : List (List Int)))) * (24 : Nat) ≤ (140737488355328 : Nat) ∧ I (IntKind.wrap IntKind.i64 (x + (1 : Int))) (x_3 ++ List.getD (List.map (fun (x : List Int) ↦ x) x_2) (Int.toNat (List.getD (Prod.fst r_10) (Int.toNat x) (0 : Int))) ([] : List Int) :: ([] : List (List Int))) ∧ μ (IntKind.wrap IntKind.i64 (x + (1 : Int))) (x_3 ++ List.getD (List.map (fun (x : List Int) ↦ x) x_2) (Int.toNat (List.getD (Prod.fst r_10) (Int.toNat x) (0 : Int))) ([] : List Int) :: ([] : List (List Int))) < μ x x_3)))) (∃ (I : Int → List (List Int) → Prop), ∃ (μ : Int → List (List Int) → Nat), I (0 : Int) ([] : List (List Int)) ∧ ∀ (x : Int) (x_4 : List (List Int)), I x x_4 → List.length (List.map (fun (x : List Int) ↦ x) x_2) ≤ (9223372036854775807 : Nat) → cnd (decide (x < (↑(List.length (List.map (fun (x : List Int) ↦ x) x_2)) : Int))) ((0 : Int) ≤ IntKind.wrap IntKind.u64 x ∧ cnd (IntKind.wrap IntKind.u8 (↑(BitVec.toNat (BitVec.ofInt (IntKind.bits IntKind.u8) (Int.fdiv some ((2 : Int) ^ min (Int.toNat (IntKind.wrap IntKind.u64 x)) (IntKind.bits IntKind.u8))) &&& BitVec.ofInt (IntKind.bits IntKind.u8) (1 : Int))) : Int) == (1 : Int)) ((0 : Int) ≤ x ∧ x < (↑(List.length (List.map (fun (x : List Int) ↦ x) x_2)) : Int) ∧ (List.length x_4 + List.length (List.getD (List.map (fun (x : List Int) ↦ x) x_2) (Int.toNat x) ([] : List Int) :: ([] : List (List Int)))) * (24 : Nat) ≤ (140737488355328 : Nat) ∧ I (IntKind.wrap IntKind.i64 (x + (1 : Int))) (x_4 ++ List.getD (List.map (fun (x : List Int) ↦ x) x_2) (Int.toNat x) ([] : List Int) :: ([] : List (List Int))) ∧ μ (IntKind.wrap IntKind.i64 (x + (1 : Int))) (x_4 ++ List.getD (List.map (fun (x : List Int) ↦ x) x_2) (Int.toNat x) ([] : List Int) :: ([] : List (List Int))) < μ x x_4) (I (IntKind.wrap IntKind.i64 (x + (1 : Int))) x_4 ∧ μ (IntKind.wrap IntKind.i64 (x + (1 : Int))) x_4 < μ x x_4)) (cnd (Prod.fst (Prod.snd r_10) == (0 : Int)) (f50_wp ((Prod.fst r, Prod.fst (Prod.snd r), Prod.snd (Prod.snd r)), x_3, ([] : List (Int × Int)), ()) () fun (r_11 : Bool) ↦ cnd r_11 (List.length x_4 ≤ (9223372036854775807 : Nat) → List.length x_3 ≤ (9223372036854775807 : Nat) → cnd (decide ((↑(List.length x_4) : Int) ≤ (↑(List.length x_3) : Int))) (f18_wp () () fun (r : Bool) ↦ Q r) (f50_wp ((Prod.fst r, Prod.fst (Prod.snd r), Prod.snd (Prod.snd r)), x_4, ([] : List (Int × Int)), ()) () fun (r : Bool) ↦ cnd (!r) (f18_wp () () fun (r : Bool) ↦ Q r) (Q false))) (Q false)) (Q false)))))))))) (List.length (List.map (fun (x : List Int) ↦ x) x_2) ≤ (9223372036854775807 : Nat) → f51_wp (Prod.fst r_4, (↑(List.length (List.map (fun (x : List Int) ↦ x) x_2)) : Int), ()) () fun (r_6 : Bool) ↦ cnd (!r_6) (Q false) (f50_wp ((Prod.fst r, Prod.fst (Prod.snd r), Prod.snd (Prod.snd r)), List.map (fun (x : List Int) ↦ x) x_2, Prod.fst r_4, ()) () fun (r_7 : Bool) ↦ cnd (!r_7) (Q false) (∃ (I : Int → Prop), ∃ (μ : Int → Nat), I (0 : Int) ∧ ∀ (x : Int), I x → List.length (Prod.fst r_4) ≤ (9223372036854775807 : Nat) → cnd (decide (x < (↑(List.length (Prod.fst r_4)) : Int))) ((0 : Int) ≤ (0 : Int) ∧ (0 : Int) ≤ x ∧ x ≤ (↑(List.length (Prod.fst r_4)) : Int) ∧ (List.length ([] : List (Int × Int)) + List.length (List.drop (Int.toNat (0 : Int)) (List.take (Int.toNat x) (Prod.fst r_4)))) * (16 : Nat) ≤ (140737488355328 : Nat) ∧ (0 : Int) ≤ IntKind.wrap IntKind.i64 (x + (1 : Int)) ∧ IntKind.wrap IntKind.i64 (x + (1 : Int)) ≤ (↑(List.length (Prod.fst r_4)) : Int) ∧ (↑(List.length (Prod.fst r_4)) : Int) ≤ (↑(List.length (Prod.fst r_4)) : Int) ∧ (List.length (([] : List (Int × Int)) ++ List.drop (Int.toNat (0 : Int)) (List.take (Int.toNat x) (Prod.fst r_4))) + List.length (List.drop (Int.toNat (IntKind.wrap IntKind.i64 (x + (1 : Int)))) (List.take (Int.toNat (↑(List.length (Prod.fst r_4)) : Int)) (Prod.fst r_4)))) * (16 : Nat) ≤ (140737488355328 : Nat) ∧ ∃ (r_8 : Bool), (f50_wp ((Prod.fst r, Prod.fst (Prod.snd r), Prod.snd (Prod.snd r)), List.map (fun (x : List Int) ↦ x) x_2, ([] : List (Int × Int)) ++ List.drop (Int.toNat (0 : Int)) (List.take (Int.toNat x) (Prod.fst r_4)) ++ List.drop (Int.toNat (IntKind.wrap IntKind.i64 (x + (1 : Int)))) (List.take (Int.toNat (↑(List.length (Prod.fst r_4)) : Int)) (Prod.fst r_4)), ()) () fun (r' : Bool) ↦ r' = r_8) ∧ cnd r_8 (Q false) (I (IntKind.wrap IntKind.i64 (x + (1 : Int))) ∧ μ (IntKind.wrap IntKind.i64 (x + (1 : Int))) < μ x)) (f47_wp (Prod.fst r, Prod.fst (Prod.snd r), Prod.snd (Prod.snd r)) () fun (r_8 : List Int × List Int × List (Int × Int)) ↦ f48_wp (List.map (fun (x : List Int) ↦ x) x_2) () fun (r_9 : List (List Int)) ↦ f29_wp ((Prod.fst r_8, Prod.fst (Prod.snd r_8), Prod.snd (Prod.snd r_8)), r_9, ()) () fun (r_10 : List Int × Int × Unit) ↦ ∃ (I : Int → List (List Int) → Prop), ∃ (μ : Int → List (List Int) → Nat), I (0 : Int) ([] : List (List Int)) ∧ ∀ (x : Int) (x_3 : List (List Int)), I x x_3 → List.length (Prod.fst r_10) ≤ (9223372036854775807 : Nat) → cnd (decide (x < (↑(List.length (Prod.fst r_10)) : Int))) ((0 : Int) ≤ x ∧ x < (↑(List.length (Prod.fst r_10)) : Int) ∧ cnd (decide (List.getD (Prod.fst r_10) (Int.toNat x) (0 : Int) < (0 : Int))) (Q false) ((0 : Int) ≤ x ∧ x < (↑(List.length (Prod.fst r_10)) : Int) ∧ cnd (decide (List.getD (Prod.fst r_10) (Int.toNat x) (0 : Int) ≥ (↑(List.length (List.map (fun (x : List Int) ↦ x) x_2)) : Int))) (Q false) (cnd (decide (x > (0 : Int))) ((0 : Int) ≤ x ∧ x < (↑(List.length (Prod.fst r_10)) : Int) ∧ (0 : Int) ≤ IntKind.wrap IntKind.i64 (x - (1 : Int)) ∧ IntKind.wrap IntKind.i64 (x - (1 : Int)) < (↑(List.length (Prod.fst r_10)) : Int) ∧ cnd (decide (List.getD (Prod.fst r_10) (Int.toNat x) (0 : Int) ≤ List.getD (Prod.fst r_10) (Int.toNat (IntKind.wrap IntKind.i64 (x - (1 : Int)))) (0 : Int))) (Q false) ((0 : Int) ≤ x ∧ x < (↑(List.length (Prod.fst r_10)) : Int) ∧ (0 : Int) ≤ List.getD (Prod.fst r_10) (Int.toNat x) (0 : Int) ∧ List.getD (Prod.fst r_10) (Int.toNat x) (0 : Int) < (↑(List.length (List.map (fun (x : List Int) ↦ x) x_2)) : Int) ∧ (List.length x_3 + List.length (List.getD (List.map (fun (x : List Int) ↦ x) x_2) (Int.toNat (List.getD (Prod.fst r_10) (Int.toNat x) (0 : Int))) ([] : List Int) :: ([] : List (List Int)))) * (24 : Nat) ≤ (140737488355328 : Nat) ∧ I (IntKind.wrap IntKind.i64 (x + (1 : Int))) (x_3 ++ List.getD (List.map (fun (x : List Int) ↦ x) x_2) (Int.toNat (List.getD (Prod.fst r_10) (Int.toNat x) (0 : Int))) ([] : List Int) :: ([] : List (List Int))) ∧ μ (IntKind.wrap IntKind.i64 (x + (1 : Int))) (x_3 ++ List.getD (List.map (fun (x : List Int) ↦ x) x_2) (Int.toNat (List.getD (Prod.fst r_10) (Int.toNat x) (0 : Int))) ([] : List Int) :: ([] : List (List Int))) < μ x x_3)) ((0 : Int) ≤ x ∧ x < (↑(List.length (Prod.fst r_10)) : Int) ∧ (0 : Int) ≤ List.getD (Prod.fst r_10) (Int.toNat x) (0 : Int) ∧ List.getD (Prod.fst r_10) (Int.toNat x) (0 : Int) < (↑(List.length (List.map (fun (x : List Int) ↦ x) x_2)) : Int) ∧ (List.length x_3 + List.length (List.getD (List.map (fun (x : List Int) ↦ x) x_2) (Int.toNat (List.getD (Prod.fst r_10) (Int.toNat x) (0 : Int))) ([] : List Int) :: ([] : List (List Int)))) * (24 : Nat) ≤ (140737488355328 : Nat) ∧ I (IntKind.wrap IntKind.i64 (x + (1 : Int))) (x_3 ++ List.getD (List.map (fun (x : List Int) ↦ x) x_2) (Int.toNat (List.getD (Prod.fst r_10) (Int.toNat x) (0 : Int))) ([] : List Int) :: ([] : List (List Int))) ∧ μ (IntKind.wrap IntKind.i64 (x + (1 : Int))) (x_3 ++ List.getD (List.map (fun (x : List Int) ↦ x) x_2) (Int.toNat (List.getD (Prod.fst r_10) (Int.toNat x) (0 : Int))) ([] : List Int) :: ([] : List (List Int))) < μ x x_3)))) (∃ (I : Int → List (List Int) → Prop), ∃ (μ : Int → List (List Int) → Nat), I (0 : Int) ([] : List (List Int)) ∧ ∀ (x : Int) (x_4 : List (List Int)), I x x_4 → List.length (List.map (fun (x : List Int) ↦ x) x_2) ≤ (9223372036854775807 : Nat) → cnd (decide (x < (↑(List.length (List.map (fun (x : List Int) ↦ x) x_2)) : Int))) ((0 : Int) ≤ IntKind.wrap IntKind.u64 x ∧ cnd (IntKind.wrap IntKind.u8 (↑(BitVec.toNat (BitVec.ofInt (IntKind.bits IntKind.u8) (Int.fdiv some ((2 : Int) ^ min (Int.toNat (IntKind.wrap IntKind.u64 x)) (IntKind.bits IntKind.u8))) &&& BitVec.ofInt (IntKind.bits IntKind.u8) (1 : Int))) : Int) == (1 : Int)) ((0 : Int) ≤ x ∧ x < (↑(List.length (List.map (fun (x : List Int) ↦ x) x_2)) : Int) ∧ (List.length x_4 + List.length (List.getD (List.map (fun (x : List Int) ↦ x) x_2) (Int.toNat x) ([] : List Int) :: ([] : List (List Int)))) * (24 : Nat) ≤ (140737488355328 : Nat) ∧ I (IntKind.wrap IntKind.i64 (x + (1 : Int))) (x_4 ++ List.getD (List.map (fun (x : List Int) ↦ x) x_2) (Int.toNat x) ([] : List Int) :: ([] : List (List Int))) ∧ μ (IntKind.wrap IntKind.i64 (x + (1 : Int))) (x_4 ++ List.getD (List.map (fun (x : List Int) ↦ x) x_2) (Int.toNat x) ([] : List Int) :: ([] : List (List Int))) < μ x x_4) (I (IntKind.wrap IntKind.i64 (x + (1 : Int))) x_4 ∧ μ (IntKind.wrap IntKind.i64 (x + (1 : Int))) x_4 < μ x x_4)) (cnd (Prod.fst (Prod.snd r_10) == (0 : Int)) (f50_wp ((Prod.fst r, Prod.fst (Prod.snd r), Prod.snd (Prod.snd r)), x_3, ([] : List (Int × Int)), ()) () fun (r_11 : Bool) ↦ cnd r_11 (List.length x_4 ≤ (9223372036854775807 : Nat) → List.length x_3 ≤ (9223372036854775807 : Nat) → cnd (decide ((↑(List.length x_4) : Int) ≤ (↑(List.length x_3) : Int))) (f18_wp () () fun (r : Bool) ↦ Q r) (f50_wp ((Prod.fst r, Prod.fst (Prod.snd r), Prod.snd (Prod.snd r)), x_4, ([] : List (Int × Int)), ()) () fun (r : Bool) ↦ cnd (!r) (f18_wp () () fun (r : Bool) ↦ Q r) (Q false))) (Q false)) (Q false)))))))))) (cnd (Prod.fst (Prod.snd r_4) != (6 : Int)) (cnd (Prod.fst (Prod.snd r_4) != (0 : Int)) (Q false) (List.length (Prod.fst r_4) ≤ (9223372036854775807 : Nat) → cnd ((↑(List.length (Prod.fst r_4)) : Int) == (0 : Int)) (Q false) (List.length (Prod.fst r_4) ≤ (9223372036854775807 : Nat) → cnd (decide ((↑(List.length (Prod.fst r_4)) : Int) > x_1)) (Q false) (List.length (List.map (fun (x : List Int) ↦ x) x_2) ≤ (9223372036854775807 : Nat) → f51_wp (Prod.fst r_4, (↑(List.length (List.map (fun (x : List Int) ↦ x) x_2)) : Int), ()) () fun (r_5 : Bool) ↦ cnd (!r_5) (Q false) (f50_wp ((Prod.fst r, Prod.fst (Prod.snd r), Prod.snd (Prod.snd r)), List.map (fun (x : List Int) ↦ x) x_2, Prod.fst r_4, ()) () fun (r_6 : Bool) ↦ cnd (!r_6) (Q false) (∃ (I : Int → Prop), ∃ (μ : Int → Nat), I (0 : Int) ∧ ∀ (x : Int), I x → List.length (Prod.fst r_4) ≤ (9223372036854775807 : Nat) → cnd (decide (x < (↑(List.length (Prod.fst r_4)) : Int))) ((0 : Int) ≤ (0 : Int) ∧ (0 : Int) ≤ x ∧ x ≤ (↑(List.length (Prod.fst r_4)) : Int) ∧ (List.length ([] : List (Int × Int)) + List.length (List.drop (Int.toNat (0 : Int)) (List.take (Int.toNat x) (Prod.fst r_4)))) * (16 : Nat) ≤ (140737488355328 : Nat) ∧ (0 : Int) ≤ IntKind.wrap IntKind.i64 (x + (1 : Int)) ∧ IntKind.wrap IntKind.i64 (x + (1 : Int)) ≤ (↑(List.length (Prod.fst r_4)) : Int) ∧ (↑(List.length (Prod.fst r_4)) : Int) ≤ (↑(List.length (Prod.fst r_4)) : Int) ∧ (List.length (([] : List (Int × Int)) ++ List.drop (Int.toNat (0 : Int)) (List.take (Int.toNat x) (Prod.fst r_4))) + List.length (List.drop (Int.toNat (IntKind.wrap IntKind.i64 (x + (1 : Int)))) (List.take (Int.toNat (↑(List.length (Prod.fst r_4)) : Int)) (Prod.fst r_4)))) * (16 : Nat) ≤ (140737488355328 : Nat) ∧ ∃ (r_7 : Bool), (f50_wp ((Prod.fst r, Prod.fst (Prod.snd r), Prod.snd (Prod.snd r)), List.map (fun (x : List Int) ↦ x) x_2, ([] : List (Int × Int)) ++ List.drop (Int.toNat (0 : Int)) (List.take (Int.toNat x) (Prod.fst r_4)) ++ List.drop (Int.toNat (IntKind.wrap IntKind.i64 (x + (1 : Int)))) (List.take (Int.toNat (↑(List.length (Prod.fst r_4)) : Int)) (Prod.fst r_4)), ()) () fun (r' : Bool) ↦ r' = r_7) ∧ cnd r_7 (Q false) (I (IntKind.wrap IntKind.i64 (x + (1 : Int))) ∧ μ (IntKind.wrap IntKind.i64 (x + (1 : Int))) < μ x)) (f47_wp (Prod.fst r, Prod.fst (Prod.snd r), Prod.snd (Prod.snd r)) () fun (r_7 : List Int × List Int × List (Int × Int)) ↦ f48_wp (List.map (fun (x : List Int) ↦ x) x_2) () fun (r_8 : List (List Int)) ↦ f29_wp ((Prod.fst r_7, Prod.fst (Prod.snd r_7), Prod.snd (Prod.snd r_7)), r_8, ()) () fun (r_9 : List Int × Int × Unit) ↦ ∃ (I : Int → List (List Int) → Prop), ∃ (μ : Int → List (List Int) → Nat), I (0 : Int) ([] : List (List Int)) ∧ ∀ (x : Int) (x_3 : List (List Int)), I x x_3 → List.length (Prod.fst r_9) ≤ (9223372036854775807 : Nat) → cnd (decide (x < (↑(List.length (Prod.fst r_9)) : Int))) ((0 : Int) ≤ x ∧ x < (↑(List.length (Prod.fst r_9)) : Int) ∧ cnd (decide (List.getD (Prod.fst r_9) (Int.toNat x) (0 : Int) < (0 : Int))) (Q false) ((0 : Int) ≤ x ∧ x < (↑(List.length (Prod.fst r_9)) : Int) ∧ cnd (decide (List.getD (Prod.fst r_9) (Int.toNat x) (0 : Int) ≥ (↑(List.length (List.map (fun (x : List Int) ↦ x) x_2)) : Int))) (Q false) (cnd (decide (x > (0 : Int))) ((0 : Int) ≤ x ∧ x < (↑(List.length (Prod.fst r_9)) : Int) ∧ (0 : Int) ≤ IntKind.wrap IntKind.i64 (x - (1 : Int)) ∧ IntKind.wrap IntKind.i64 (x - (1 : Int)) < (↑(List.length (Prod.fst r_9)) : Int) ∧ cnd (decide (List.getD (Prod.fst r_9) (Int.toNat x) (0 : Int) ≤ List.getD (Prod.fst r_9) (Int.toNat (IntKind.wrap IntKind.i64 (x - (1 : Int)))) (0 : Int))) (Q false) ((0 : Int) ≤ x ∧ x < (↑(List.length (Prod.fst r_9)) : Int) ∧ (0 : Int) ≤ List.getD (Prod.fst r_9) (Int.toNat x) (0 : Int) ∧ List.getD (Prod.fst r_9) (Int.toNat x) (0 : Int) < (↑(List.length (List.map (fun (x : List Int) ↦ x) x_2)) : Int) ∧ (List.length x_3 + List.length (List.getD (List.map (fun (x : List Int) ↦ x) x_2) (Int.toNat (List.getD (Prod.fst r_9) (Int.toNat x) (0 : Int))) ([] : List Int) :: ([] : List (List Int)))) * (24 : Nat) ≤ (140737488355328 : Nat) ∧ I (IntKind.wrap IntKind.i64 (x + (1 : Int))) (x_3 ++ List.getD (List.map (fun (x : List Int) ↦ x) x_2) (Int.toNat (List.getD (Prod.fst r_9) (Int.toNat x) (0 : Int))) ([] : List Int) :: ([] : List (List Int))) ∧ μ (IntKind.wrap IntKind.i64 (x + (1 : Int))) (x_3 ++ List.getD (List.map (fun (x : List Int) ↦ x) x_2) (Int.toNat (List.getD (Prod.fst r_9) (Int.toNat x) (0 : Int))) ([] : List Int) :: ([] : List (List Int))) < μ x x_3)) ((0 : Int) ≤ x ∧ x < (↑(List.length (Prod.fst r_9)) : Int) ∧ (0 : Int) ≤ List.getD (Prod.fst r_9) (Int.toNat x) (0 : Int) ∧ List.getD (Prod.fst r_9) (Int.toNat x) (0 : Int) < (↑(List.length (List.map (fun (x : List Int) ↦ x) x_2)) : Int) ∧ (List.length x_3 + List.length (List.getD (List.map (fun (x : List Int) ↦ x) x_2) (Int.toNat (List.getD (Prod.fst r_9) (Int.toNat x) (0 : Int))) ([] : List Int) :: ([] : List (List Int)))) * (24 : Nat) ≤ (140737488355328 : Nat) ∧ I (IntKind.wrap IntKind.i64 (x + (1 : Int))) (x_3 ++ List.getD (List.map (fun (x : List Int) ↦ x) x_2) (Int.toNat (List.getD (Prod.fst r_9) (Int.toNat x) (0 : Int))) ([] : List Int) :: ([] : List (List Int))) ∧ μ (IntKind.wrap IntKind.i64 (x + (1 : Int))) (x_3 ++ List.getD (List.map (fun (x : List Int) ↦ x) x_2) (Int.toNat (List.getD (Prod.fst r_9) (Int.toNat x) (0 : Int))) ([] : List Int) :: ([] : List (List Int))) < μ x x_3)))) (∃ (I : Int → List (List Int) → Prop), ∃ (μ : Int → List (List Int) → Nat), I (0 : Int) ([] : List (List Int)) ∧ ∀ (x : Int) (x_4 : List (List Int)), I x x_4 → List.length (List.map (fun (x : List Int) ↦ x) x_2) ≤ (9223372036854775807 : Nat) → cnd (decide (x < (↑(List.length (List.map (fun (x : List Int) ↦ x) x_2)) : Int))) ((0 : Int) ≤ IntKind.wrap IntKind.u64 x ∧ cnd (IntKind.wrap IntKind.u8 (↑(BitVec.toNat (BitVec.ofInt (IntKind.bits IntKind.u8) (Int.fdiv some ((2 : Int) ^ min (Int.toNat (IntKind.wrap IntKind.u64 x)) (IntKind.bits IntKind.u8))) &&& BitVec.ofInt (IntKind.bits IntKind.u8) (1 : Int))) : Int) == (1 : Int)) ((0 : Int) ≤ x ∧ x < (↑(List.length (List.map (fun (x : List Int) ↦ x) x_2)) : Int) ∧ (List.length x_4 + List.length (List.getD (List.map (fun (x : List Int) ↦ x) x_2) (Int.toNat x) ([] : List Int) :: ([] : List (List Int)))) * (24 : Nat) ≤ (140737488355328 : Nat) ∧ I (IntKind.wrap IntKind.i64 (x + (1 : Int))) (x_4 ++ List.getD (List.map (fun (x : List Int) ↦ x) x_2) (Int.toNat x) ([] : List Int) :: ([] : List (List Int))) ∧ μ (IntKind.wrap IntKind.i64 (x + (1 : Int))) (x_4 ++ List.getD (List.map (fun (x : List Int) ↦ x) x_2) (Int.toNat x) ([] : List Int) :: ([] : List (List Int))) < μ x x_4) (I (IntKind.wrap IntKind.i64 (x + (1 : Int))) x_4 ∧ μ (IntKind.wrap IntKind.i64 (x + (1 : Int))) x_4 < μ x x_4)) (cnd (Prod.fst (Prod.snd r_9) == (0 : Int)) (f50_wp ((Prod.fst r, Prod.fst (Prod.snd r), Prod.snd (Prod.snd r)), x_3, ([] : List (Int × Int)), ()) () fun (r_10 : Bool) ↦ cnd r_10 (List.length x_4 ≤ (9223372036854775807 : Nat) → List.length x_3 ≤ (9223372036854775807 : Nat) → cnd (decide ((↑(List.length x_4) : Int) ≤ (↑(List.length x_3) : Int))) (f18_wp () () fun (r : Bool) ↦ Q r) (f50_wp ((Prod.fst r, Prod.fst (Prod.snd r), Prod.snd (Prod.snd r)), x_4, ([] : List (Int × Int)), ()) () fun (r : Bool) ↦ cnd (!r) (f18_wp () () fun (r : Bool) ↦ Q r) (Q false))) (Q false)) (Q false)))))))))) (List.length (List.map (fun (x : List Int) ↦ x) x_2) ≤ (9223372036854775807 : Nat) → f51_wp (Prod.fst r_4, (↑(List.length (List.map (fun (x : List Int) ↦ x) x_2)) : Int), ()) () fun (r_5 : Bool) ↦ cnd (!r_5) (Q false) (f50_wp ((Prod.fst r, Prod.fst (Prod.snd r), Prod.snd (Prod.snd r)), List.map (fun (x : List Int) ↦ x) x_2, Prod.fst r_4, ()) () fun (r_6 : Bool) ↦ cnd (!r_6) (Q false) (∃ (I : Int → Prop), ∃ (μ : Int → Nat), I (0 : Int) ∧ ∀ (x : Int), I x → List.length (Prod.fst r_4) ≤ (9223372036854775807 : Nat) → cnd (decide (x < (↑(List.length (Prod.fst r_4)) : Int))) ((0 : Int) ≤ (0 : Int) ∧ (0 : Int) ≤ x ∧ x ≤ (↑(List.length (Prod.fst r_4)) : Int) ∧ (List.length ([] : List (Int × Int)) + List.length (List.drop (Int.toNat (0 : Int)) (List.take (Int.toNat x) (Prod.fst r_4)))) * (16 : Nat) ≤ (140737488355328 : Nat) ∧ (0 : Int) ≤ IntKind.wrap IntKind.i64 (x + (1 : Int)) ∧ IntKind.wrap IntKind.i64 (x + (1 : Int)) ≤ (↑(List.length (Prod.fst r_4)) : Int) ∧ (↑(List.length (Prod.fst r_4)) : Int) ≤ (↑(List.length (Prod.fst r_4)) : Int) ∧ (List.length (([] : List (Int × Int)) ++ List.drop (Int.toNat (0 : Int)) (List.take (Int.toNat x) (Prod.fst r_4))) + List.length (List.drop (Int.toNat (IntKind.wrap IntKind.i64 (x + (1 : Int)))) (List.take (Int.toNat (↑(List.length (Prod.fst r_4)) : Int)) (Prod.fst r_4)))) * (16 : Nat) ≤ (140737488355328 : Nat) ∧ ∃ (r_7 : Bool), (f50_wp ((Prod.fst r, Prod.fst (Prod.snd r), Prod.snd (Prod.snd r)), List.map (fun (x : List Int) ↦ x) x_2, ([] : List (Int × Int)) ++ List.drop (Int.toNat (0 : Int)) (List.take (Int.toNat x) (Prod.fst r_4)) ++ List.drop (Int.toNat (IntKind.wrap IntKind.i64 (x + (1 : Int)))) (List.take (Int.toNat (↑(List.length (Prod.fst r_4)) : Int)) (Prod.fst r_4)), ()) () fun (r' : Bool) ↦ r' = r_7) ∧ cnd r_7 (Q false) (I (IntKind.wrap IntKind.i64 (x + (1 : Int))) ∧ μ (IntKind.wrap IntKind.i64 (x + (1 : Int))) < μ x)) (f47_wp (Prod.fst r, Prod.fst (Prod.snd r), Prod.snd (Prod.snd r)) () fun (r_7 : List Int × List Int × List (Int × Int)) ↦ f48_wp (List.map (fun (x : List Int) ↦ x) x_2) () fun (r_8 : List (List Int)) ↦ f29_wp ((Prod.fst r_7, Prod.fst (Prod.snd r_7), Prod.snd (Prod.snd r_7)), r_8, ()) () fun (r_9 : List Int × Int × Unit) ↦ ∃ (I : Int → List (List Int) → Prop), ∃ (μ : Int → List (List Int) → Nat), I (0 : Int) ([] : List (List Int)) ∧ ∀ (x : Int) (x_3 : List (List Int)), I x x_3 → List.length (Prod.fst r_9) ≤ (9223372036854775807 : Nat) → cnd (decide (x < (↑(List.length (Prod.fst r_9)) : Int))) ((0 : Int) ≤ x ∧ x < (↑(List.length (Prod.fst r_9)) : Int) ∧ cnd (decide (List.getD (Prod.fst r_9) (Int.toNat x) (0 : Int) < (0 : Int))) (Q false) ((0 : Int) ≤ x ∧ x < (↑(List.length (Prod.fst r_9)) : Int) ∧ cnd (decide (List.getD (Prod.fst r_9) (Int.toNat x) (0 : Int) ≥ (↑(List.length (List.map (fun (x : List Int) ↦ x) x_2)) : Int))) (Q false) (cnd (decide (x > (0 : Int))) ((0 : Int) ≤ x ∧ x < (↑(List.length (Prod.fst r_9)) : Int) ∧ (0 : Int) ≤ IntKind.wrap IntKind.i64 (x - (1 : Int)) ∧ IntKind.wrap IntKind.i64 (x - (1 : Int)) < (↑(List.length (Prod.fst r_9)) : Int) ∧ cnd (decide (List.getD (Prod.fst r_9) (Int.toNat x) (0 : Int) ≤ List.getD (Prod.fst r_9) (Int.toNat (IntKind.wrap IntKind.i64 (x - (1 : Int)))) (0 : Int))) (Q false) ((0 : Int) ≤ x ∧ x < (↑(List.length (Prod.fst r_9)) : Int) ∧ (0 : Int) ≤ List.getD (Prod.fst r_9) (Int.toNat x) (0 : Int) ∧ List.getD (Prod.fst r_9) (Int.toNat x) (0 : Int) < (↑(List.length (List.map (fun (x : List Int) ↦ x) x_2)) : Int) ∧ (List.length x_3 + List.length (List.getD (List.map (fun (x : List Int) ↦ x) x_2) (Int.toNat (List.getD (Prod.fst r_9) (Int.toNat x) (0 : Int))) ([] : List Int) :: ([] : List (List Int)))) * (24 : Nat) ≤ (140737488355328 : Nat) ∧ I (IntKind.wrap IntKind.i64 (x + (1 : Int))) (x_3 ++ List.getD (List.map (fun (x : List Int) ↦ x) x_2) (Int.toNat (List.getD (Prod.fst r_9) (Int.toNat x) (0 : Int))) ([] : List Int) :: ([] : List (List Int))) ∧ μ (IntKind.wrap IntKind.i64 (x + (1 : Int))) (x_3 ++ List.getD (List.map (fun (x : List Int) ↦ x) x_2) (Int.toNat (List.getD (Prod.fst r_9) (Int.toNat x) (0 : Int))) ([] : List Int) :: ([] : List (List Int))) < μ x x_3)) ((0 : Int) ≤ x ∧ x < (↑(List.length (Prod.fst r_9)) : Int) ∧ (0 : Int) ≤ List.getD (Prod.fst r_9) (Int.toNat x) (0 : Int) ∧ List.getD (Prod.fst r_9) (Int.toNat x) (0 : Int) < (↑(List.length (List.map (fun (x : List Int) ↦ x) x_2)) : Int) ∧ (List.length x_3 + List.length (List.getD (List.map (fun (x : List Int) ↦ x) x_2) (Int.toNat (List.getD (Prod.fst r_9) (Int.toNat x) (0 : Int))) ([] : List Int) :: ([] : List (List Int)))) * (24 : Nat) ≤ (140737488355328 : Nat) ∧ I (IntKind.wrap IntKind.i64 (x + (1 : Int))) (x_3 ++ List.getD (List.map (fun (x : List Int) ↦ x) x_2) (Int.toNat (List.getD (Prod.fst r_9) (Int.toNat x) (0 : Int))) ([] : List Int) :: ([] : List (List Int))) ∧ μ (IntKind.wrap IntKind.i64 (x + (1 : Int))) (x_3 ++ List.getD (List.map (fun (x : List Int) ↦ x) x_2) (Int.toNat (List.getD (Prod.fst r_9) (Int.toNat x) (0 : Int))) ([] : List Int) :: ([] : List (List Int))) < μ x x_3)))) (∃ (I : Int → List (List Int) → Prop), ∃ (μ : Int → List (List Int) → Nat), I (0 : Int) ([] : List (List Int)) ∧ ∀ (x : Int) (x_4 : List (List Int)), I x x_4 → List.length (List.map (fun (x : List Int) ↦ x) x_2) ≤ (9223372036854775807 : Nat) → cnd (decide (x < (↑(List.length (List.map (fun (x : List Int) ↦ x) x_2)) : Int))) ((0 : Int) ≤ IntKind.wrap IntKind.u64 x ∧ cnd (IntKind.wrap IntKind.u8 (↑(BitVec.toNat (BitVec.ofInt (IntKind.bits IntKind.u8) (Int.fdiv some ((2 : Int) ^ min (Int.toNat (IntKind.wrap IntKind.u64 x)) (IntKind.bits IntKind.u8))) &&& BitVec.ofInt (IntKind.bits IntKind.u8) (1 : Int))) : Int) == (1 : Int)) ((0 : Int) ≤ x ∧ x < (↑(List.length (List.map (fun (x : List Int) ↦ x) x_2)) : Int) ∧ (List.length x_4 + List.length (List.getD (List.map (fun (x : List Int) ↦ x) x_2) (Int.toNat x) ([] : List Int) :: ([] : List (List Int)))) * (24 : Nat) ≤ (140737488355328 : Nat) ∧ I (IntKind.wrap IntKind.i64 (x + (1 : Int))) (x_4 ++ List.getD (List.map (fun (x : List Int) ↦ x) x_2) (Int.toNat x) ([] : List Int) :: ([] : List (List Int))) ∧ μ (IntKind.wrap IntKind.i64 (x + (1 : Int))) (x_4 ++ List.getD (List.map (fun (x : List Int) ↦ x) x_2) (Int.toNat x) ([] : List Int) :: ([] : List (List Int))) < μ x x_4) (I (IntKind.wrap IntKind.i64 (x + (1 : Int))) x_4 ∧ μ (IntKind.wrap IntKind.i64 (x + (1 : Int))) x_4 < μ x x_4)) (cnd (Prod.fst (Prod.snd r_9) == (0 : Int)) (f50_wp ((Prod.fst r, Prod.fst (Prod.snd r), Prod.snd (Prod.snd r)), x_3, ([] : List (Int × Int)), ()) () fun (r_10 : Bool) ↦ cnd r_10 (List.length x_4 ≤ (9223372036854775807 : Nat) → List.length x_3 ≤ (9223372036854775807 : Nat) → cnd (decide ((↑(List.length x_4) : Int) ≤ (↑(List.length x_3) : Int))) (f18_wp () () fun (r : Bool) ↦ Q r) (f50_wp ((Prod.fst r, Prod.fst (Prod.snd r), Prod.snd (Prod.snd r)), x_4, ([] : List (Int × Int)), ()) () fun (r : Bool) ↦ cnd (!r) (f18_wp () () fun (r : Bool) ↦ Q r) (Q false))) (Q false)) (Q false)))))))))) (f47_wp (Prod.fst r, Prod.fst (Prod.snd r), Prod.snd (Prod.snd r)) () fun (r_2 : List Int × List Int × List (Int × Int)) ↦ f48_wp (List.map (fun (x : List Int) ↦ x) x_2) () fun (r_3 : List (List Int)) ↦ f34_wp ((Prod.fst r_2, Prod.fst (Prod.snd r_2), Prod.snd (Prod.snd r_2)), r_3, ()) () fun (r_4 : List (Int × Int) × Int × Unit) ↦ cnd (Prod.fst (Prod.snd r_4) == (6 : Int)) (List.length (Prod.fst r_4) ≤ (9223372036854775807 : Nat) → cnd (decide ((↑(List.length (Prod.fst r_4)) : Int) > (0 : Int))) (Q false) (f50_wp ((Prod.fst r, Prod.fst (Prod.snd r), Prod.snd (Prod.snd r)), List.map (fun (x : List Int) ↦ x) x_2, ([] : List (Int × Int)), ()) () fun (r_5 : Bool) ↦ cnd (!r_5) (Q false) (cnd (Prod.fst (Prod.snd r_4) != (6 : Int)) (cnd (Prod.fst (Prod.snd r_4) != (0 : Int)) (Q false) (List.length (Prod.fst r_4) ≤ (9223372036854775807 : Nat) → cnd ((↑(List.length (Prod.fst r_4)) : Int) == (0 : Int)) (Q false) (List.length (Prod.fst r_4) ≤ (9223372036854775807 : Nat) → cnd (decide ((↑(List.length (Prod.fst r_4)) : Int) > x_1)) (Q false) (List.length (List.map (fun (x : List Int) ↦ x) x_2) ≤ (9223372036854775807 : Nat) → f51_wp (Prod.fst r_4, (↑(List.length (List.map (fun (x : List Int) ↦ x) x_2)) : Int), ()) () fun (r_6 : Bool) ↦ cnd (!r_6) (Q false) (f50_wp ((Prod.fst r, Prod.fst (Prod.snd r), Prod.snd (Prod.snd r)), List.map (fun (x : List Int) ↦ x) x_2, Prod.fst r_4, ()) () fun (r_7 : Bool) ↦ cnd (!r_7) (Q false) (∃ (I : Int → Prop), ∃ (μ : Int → Nat), I (0 : Int) ∧ ∀ (x : Int), I x → List.length (Prod.fst r_4) ≤ (9223372036854775807 : Nat) → cnd (decide (x < (↑(List.length (Prod.fst r_4)) : Int))) ((0 : Int) ≤ (0 : Int) ∧ (0 : Int) ≤ x ∧ x ≤ (↑(List.length (Prod.fst r_4)) : Int) ∧ (List.length ([] : List (Int × Int)) + List.length (List.drop (Int.toNat (0 : Int)) (List.take (Int.toNat x) (Prod.fst r_4)))) * (16 : Nat) ≤ (140737488355328 : Nat) ∧ (0 : Int) ≤ IntKind.wrap IntKind.i64 (x + (1 : Int)) ∧ IntKind.wrap IntKind.i64 (x + (1 : Int)) ≤ (↑(List.length (Prod.fst r_4)) : Int) ∧ (↑(List.length (Prod.fst r_4)) : Int) ≤ (↑(List.length (Prod.fst r_4)) : Int) ∧ (List.length (([] : List (Int × Int)) ++ List.drop (Int.toNat (0 : Int)) (List.take (Int.toNat x) (Prod.fst r_4))) + List.length (List.drop (Int.toNat (IntKind.wrap IntKind.i64 (x + (1 : Int)))) (List.take (Int.toNat (↑(List.length (Prod.fst r_4)) : Int)) (Prod.fst r_4)))) * (16 : Nat) ≤ (140737488355328 : Nat) ∧ ∃ (r_8 : Bool), (f50_wp ((Prod.fst r, Prod.fst (Prod.snd r), Prod.snd (Prod.snd r)), List.map (fun (x : List Int) ↦ x) x_2, ([] : List (Int × Int)) ++ List.drop (Int.toNat (0 : Int)) (List.take (Int.toNat x) (Prod.fst r_4)) ++ List.drop (Int.toNat (IntKind.wrap IntKind.i64 (x + (1 : Int)))) (List.take (Int.toNat (↑(List.length (Prod.fst r_4)) : Int)) (Prod.fst r_4)), ()) () fun (r' : Bool) ↦ r' = r_8) ∧ cnd r_8 (Q false) (I (IntKind.wrap IntKind.i64 (x + (1 : Int))) ∧ μ (IntKind.wrap IntKind.i64 (x + (1 : Int))) < μ x)) (f47_wp (Prod.fst r, Prod.fst (Prod.snd r), Prod.snd (Prod.snd r)) () fun (r_8 : List Int × List Int × List (Int × Int)) ↦ f48_wp (List.map (fun (x : List Int) ↦ x) x_2) () fun (r_9 : List (List Int)) ↦ f29_wp ((Prod.fst r_8, Prod.fst (Prod.snd r_8), Prod.snd (Prod.snd r_8)), r_9, ()) () fun (r_10 : List Int × Int × Unit) ↦ ∃ (I : Int → List (List Int) → Prop), ∃ (μ : Int → List (List Int) → Nat), I (0 : Int) ([] : List (List Int)) ∧ ∀ (x : Int) (x_3 : List (List Int)), I x x_3 → List.length (Prod.fst r_10) ≤ (9223372036854775807 : Nat) → cnd (decide (x < (↑(List.length (Prod.fst r_10)) : Int))) ((0 : Int) ≤ x ∧ x < (↑(List.length (Prod.fst r_10)) : Int) ∧ cnd (decide (List.getD (Prod.fst r_10) (Int.toNat x) (0 : Int) < (0 : Int))) (Q false) ((0 : Int) ≤ x ∧ x < (↑(List.length (Prod.fst r_10)) : Int) ∧ cnd (decide (List.getD (Prod.fst r_10) (Int.toNat x) (0 : Int) ≥ (↑(List.length (List.map (fun (x : List Int) ↦ x) x_2)) : Int))) (Q false) (cnd (decide (x > (0 : Int))) ((0 : Int) ≤ x ∧ x < (↑(List.length (Prod.fst r_10)) : Int) ∧ (0 : Int) ≤ IntKind.wrap IntKind.i64 (x - (1 : Int)) ∧ IntKind.wrap IntKind.i64 (x - (1 : Int)) < (↑(List.length (Prod.fst r_10)) : Int) ∧ cnd (decide (List.getD (Prod.fst r_10) (Int.toNat x) (0 : Int) ≤ List.getD (Prod.fst r_10) (Int.toNat (IntKind.wrap IntKind.i64 (x - (1 : Int)))) (0 : Int))) (Q false) ((0 : Int) ≤ x ∧ x < (↑(List.length (Prod.fst r_10)) : Int) ∧ (0 : Int) ≤ List.getD (Prod.fst r_10) (Int.toNat x) (0 : Int) ∧ List.getD (Prod.fst r_10) (Int.toNat x) (0 : Int) < (↑(List.length (List.map (fun (x : List Int) ↦ x) x_2)) : Int) ∧ (List.length x_3 + List.length (List.getD (List.map (fun (x : List Int) ↦ x) x_2) (Int.toNat (List.getD (Prod.fst r_10) (Int.toNat x) (0 : Int))) ([] : List Int) :: ([] : List (List Int)))) * (24 : Nat) ≤ (140737488355328 : Nat) ∧ I (IntKind.wrap IntKind.i64 (x + (1 : Int))) (x_3 ++ List.getD (List.map (fun (x : List Int) ↦ x) x_2) (Int.toNat (List.getD (Prod.fst r_10) (Int.toNat x) (0 : Int))) ([] : List Int) :: ([] : List (List Int))) ∧ μ (IntKind.wrap IntKind.i64 (x + (1 : Int))) (x_3 ++ List.getD (List.map (fun (x : List Int) ↦ x) x_2) (Int.toNat (List.getD (Prod.fst r_10) (Int.toNat x) (0 : Int))) ([] : List Int) :: ([] : List (List Int))) < μ x x_3)) ((0 : Int) ≤ x ∧ x < (↑(List.length (Prod.fst r_10)) : Int) ∧ (0 : Int) ≤ List.getD (Prod.fst r_10) (Int.toNat x) (0 : Int) ∧ List.getD (Prod.fst r_10) (Int.toNat x) (0 : Int) < (↑(List.length (List.map (fun (x : List Int) ↦ x) x_2)) : Int) ∧ (List.length x_3 + List.length (List.getD (List.map (fun (x : List Int) ↦ x) x_2) (Int.toNat (List.getD (Prod.fst r_10) (Int.toNat x) (0 : Int))) ([] : List Int) :: ([] : List (List Int)))) * (24 : Nat) ≤ (140737488355328 : Nat) ∧ I (IntKind.wrap IntKind.i64 (x + (1 : Int))) (x_3 ++ List.getD (List.map (fun (x : List Int) ↦ x) x_2) (Int.toNat (List.getD (Prod.fst r_10) (Int.toNat x) (0 : Int))) ([] : List Int) :: ([] : List (List Int))) ∧ μ (IntKind.wrap IntKind.i64 (x + (1 : Int))) (x_3 ++ List.getD (List.map (fun (x : List Int) ↦ x) x_2) (Int.toNat (List.getD (Prod.fst r_10) (Int.toNat x) (0 : Int))) ([] : List Int) :: ([] : List (List Int))) < μ x x_3)))) (∃ (I : Int → List (List Int) → Prop), ∃ (μ : Int → List (List Int) → Nat), I (0 : Int) ([] : List (List Int)) ∧ ∀ (x : Int) (x_4 : List (List Int)), I x x_4 → List.length (List.map (fun (x : List Int) ↦ x) x_2) ≤ (9223372036854775807 : Nat) → cnd (decide (x < (↑(List.length (List.map (fun (x : List Int) ↦ x) x_2)) : Int))) ((0 : Int) ≤ IntKind.wrap IntKind.u64 x ∧ cnd (IntKind.wrap IntKind.u8 (↑(BitVec.toNat (BitVec.ofInt (IntKind.bits IntKind.u8) (Int.fdiv some ((2 : Int) ^ min (Int.toNat (IntKind.wrap IntKind.u64 x)) (IntKind.bits IntKind.u8))) &&& BitVec.ofInt (IntKind.bits IntKind.u8) (1 : Int))) : Int) == (1 : Int)) ((0 : Int) ≤ x ∧ x < (↑(List.length (List.map (fun (x : List Int) ↦ x) x_2)) : Int) ∧ (List.length x_4 + List.length (List.getD (List.map (fun (x : List Int) ↦ x) x_2) (Int.toNat x) ([] : List Int) :: ([] : List (List Int)))) * (24 : Nat) ≤ (140737488355328 : Nat) ∧ I (IntKind.wrap IntKind.i64 (x + (1 : Int))) (x_4 ++ List.getD (List.map (fun (x : List Int) ↦ x) x_2) (Int.toNat x) ([] : List Int) :: ([] : List (List Int))) ∧ μ (IntKind.wrap IntKind.i64 (x + (1 : Int))) (x_4 ++ List.getD (List.map (fun (x : List Int) ↦ x) x_2) (Int.toNat x) ([] : List Int) :: ([] : List (List Int))) < μ x x_4) (I (IntKind.wrap IntKind.i64 (x + (1 : Int))) x_4 ∧ μ (IntKind.wrap IntKind.i64 (x + (1 : Int))) x_4 < μ x x_4)) (cnd (Prod.fst (Prod.snd r_10) == (0 : Int)) (f50_wp ((Prod.fst r, Prod.fst (Prod.snd r), Prod.snd (Prod.snd r)), x_3, ([] : List (Int × Int)), ()) () fun (r_11 : Bool) ↦ cnd r_11 (List.length x_4 ≤ (9223372036854775807 : Nat) → List.length x_3 ≤ (9223372036854775807 : Nat) → cnd (decide ((↑(List.length x_4) : Int) ≤ (↑(List.length x_3) : Int))) (f18_wp () () fun (r : Bool) ↦ Q r) (f50_wp ((Prod.fst r, Prod.fst (Prod.snd r), Prod.snd (Prod.snd r)), x_4, ([] : List (Int × Int)), ()) () fun (r : Bool) ↦ cnd (!r) (f18_wp () () fun (r : Bool) ↦ Q r) (Q false))) (Q false)) (Q false)))))))))) (List.length (List.map (fun (x : List Int) ↦ x) x_2) ≤ (9223372036854775807 : Nat) → f51_wp (Prod.fst r_4, (↑(List.length (List.map (fun (x : List Int) ↦ x) x_2)) : Int), ()) () fun (r_6 : Bool) ↦ cnd (!r_6) (Q false) (f50_wp ((Prod.fst r, Prod.fst (Prod.snd r), Prod.snd (Prod.snd r)), List.map (fun (x : List Int) ↦ x) x_2, Prod.fst r_4, ()) () fun (r_7 : Bool) ↦ cnd (!r_7) (Q false) (∃ (I : Int → Prop), ∃ (μ : Int → Nat), I (0 : Int) ∧ ∀ (x : Int), I x → List.length (Prod.fst r_4) ≤ (9223372036854775807 : Nat) → cnd (decide (x < (↑(List.length (Prod.fst r_4)) : Int))) ((0 : Int) ≤ (0 : Int) ∧ (0 : Int) ≤ x ∧ x ≤ (↑(List.length (Prod.fst r_4)) : Int) ∧ (List.length ([] : List (Int × Int)) + List.length (List.drop (Int.toNat (0 : Int)) (List.take (Int.toNat x) (Prod.fst r_4)))) * (16 : Nat) ≤ (140737488355328 : Nat) ∧ (0 : Int) ≤ IntKind.wrap IntKind.i64 (x + (1 : Int)) ∧ IntKind.wrap IntKind.i64 (x + (1 : Int)) ≤ (↑(List.length (Prod.fst r_4)) : Int) ∧ (↑(List.length (Prod.fst r_4)) : Int) ≤ (↑(List.length (Prod.fst r_4)) : Int) ∧ (List.length (([] : List (Int × Int)) ++ List.drop (Int.toNat (0 : Int)) (List.take (Int.toNat x) (Prod.fst r_4))) + List.length (List.drop (Int.toNat (IntKind.wrap IntKind.i64 (x + (1 : Int)))) (List.take (Int.toNat (↑(List.length (Prod.fst r_4)) : Int)) (Prod.fst r_4)))) * (16 : Nat) ≤ (140737488355328 : Nat) ∧ ∃ (r_8 : Bool), (f50_wp ((Prod.fst r, Prod.fst (Prod.snd r), Prod.snd (Prod.snd r)), List.map (fun (x : List Int) ↦ x) x_2, ([] : List (Int × Int)) ++ List.drop (Int.toNat (0 : Int)) (List.take (Int.toNat x) (Prod.fst r_4)) ++ List.drop (Int.toNat (IntKind.wrap IntKind.i64 (x + (1 : Int)))) (List.take (Int.toNat (↑(List.length (Prod.fst r_4)) : Int)) (Prod.fst r_4)), ()) () fun (r' : Bool) ↦ r' = r_8) ∧ cnd r_8 (Q false) (I (IntKind.wrap IntKind.i64 (x + (1 : Int))) ∧ μ (IntKind.wrap IntKind.i64 (x + (1 : Int))) < μ x)) (f47_wp (Prod.fst r, Prod.fst (Prod.snd r), Prod.snd (Prod.snd r)) () fun (r_8 : List Int × List Int × List (Int × Int)) ↦ f48_wp (List.map (fun (x : List Int) ↦ x) x_2) () fun (r_9 : List (List Int)) ↦ f29_wp ((Prod.fst r_8, Prod.fst (Prod.snd r_8), Prod.snd (Prod.snd r_8)), r_9, ()) () fun (r_10 : List Int × Int × Unit) ↦ ∃ (I : Int → List (List Int) → Prop), ∃ (μ : Int → List (List Int) → Nat), I (0 : Int) ([] : List (List Int)) ∧ ∀ (x : Int) (x_3 : List (List Int)), I x x_3 → List.length (Prod.fst r_10) ≤ (9223372036854775807 : Nat) → cnd (decide (x < (↑(List.length (Prod.fst r_10)) : Int))) ((0 : Int) ≤ x ∧ x < (↑(List.length (Prod.fst r_10)) : Int) ∧ cnd (decide (List.getD (Prod.fst r_10) (Int.toNat x) (0 : Int) < (0 : Int))) (Q false) ((0 : Int) ≤ x ∧ x < (↑(List.length (Prod.fst r_10)) : Int) ∧ cnd (decide (List.getD (Prod.fst r_10) (Int.toNat x) (0 : Int) ≥ (↑(List.length (List.map (fun (x : List Int) ↦ x) x_2)) : Int))) (Q false) (cnd (decide (x > (0 : Int))) ((0 : Int) ≤ x ∧ x < (↑(List.length (Prod.fst r_10)) : Int) ∧ (0 : Int) ≤ IntKind.wrap IntKind.i64 (x - (1 : Int)) ∧ IntKind.wrap IntKind.i64 (x - (1 : Int)) < (↑(List.length (Prod.fst r_10)) : Int) ∧ cnd (decide (List.getD (Prod.fst r_10) (Int.toNat x) (0 : Int) ≤ List.getD (Prod.fst r_10) (Int.toNat (IntKind.wrap IntKind.i64 (x - (1 : Int)))) (0 : Int))) (Q false) ((0 : Int) ≤ x ∧ x < (↑(List.length (Prod.fst r_10)) : Int) ∧ (0 : Int) ≤ List.getD (Prod.fst r_10) (Int.toNat x) (0 : Int) ∧ List.getD (Prod.fst r_10) (Int.toNat x) (0 : Int) < (↑(List.length (List.map (fun (x : List Int) ↦ x) x_2)) : Int) ∧ (List.length x_3 + List.length (List.getD (List.map (fun (x : List Int) ↦ x) x_2) (Int.toNat (List.getD (Prod.fst r_10) (Int.toNat x) (0 : Int))) ([] : List Int) :: ([] : List (List Int)))) * (24 : Nat) ≤ (140737488355328 : Nat) ∧ I (IntKind.wrap IntKind.i64 (x + (1 : Int))) (x_3 ++ List.getD (List.map (fun (x : List Int) ↦ x) x_2) (Int.toNat (List.getD (Prod.fst r_10) (Int.toNat x) (0 : Int))) ([] : List Int) :: ([] : List (List Int))) ∧ μ (IntKind.wrap IntKind.i64 (x + (1 : Int))) (x_3 ++ List.getD (List.map (fun (x : List Int) ↦ x) x_2) (Int.toNat (List.getD (Prod.fst r_10) (Int.toNat x) (0 : Int))) ([] : List Int) :: ([] : List (List Int))) < μ x x_3)) ((0 : Int) ≤ x ∧ x < (↑(List.length (Prod.fst r_10)) : Int) ∧ (0 : Int) ≤ List.getD (Prod.fst r_10) (Int.toNat x) (0 : Int) ∧ List.getD (Prod.fst r_10) (Int.toNat x) (0 : Int) < (↑(List.length (List.map (fun (x : List Int) ↦ x) x_2)) : Int) ∧ (List.length x_3 + List.length (List.getD (List.map (fun (x : List Int) ↦ x) x_2) (Int.toNat (List.getD (Prod.fst r_10) (Int.toNat x) (0 : Int))) ([] : List Int) :: ([] : List (List Int)))) * (24 : Nat) ≤ (140737488355328 : Nat) ∧ I (IntKind.wrap IntKind.i64 (x + (1 : Int))) (x_3 ++ List.getD (List.map (fun (x : List Int) ↦ x) x_2) (Int.toNat (List.getD (Prod.fst r_10) (Int.toNat x) (0 : Int))) ([] : List Int) :: ([] : List (List Int))) ∧ μ (IntKind.wrap IntKind.i64 (x + (1 : Int))) (x_3 ++ List.getD (List.map (fun (x : List Int) ↦ x) x_2) (Int.toNat (List.getD (Prod.fst r_10) (Int.toNat x) (0 : Int))) ([] : List Int) :: ([] : List (List Int))) < μ x x_3)))) (∃ (I : Int → List (List Int) → Prop), ∃ (μ : Int → List (List Int) → Nat), I (0 : Int) ([] : List (List Int)) ∧ ∀ (x : Int) (x_4 : List (List Int)), I x x_4 → List.length (List.map (fun (x : List Int) ↦ x) x_2) ≤ (9223372036854775807 : Nat) → cnd (decide (x < (↑(List.length (List.map (fun (x : List Int) ↦ x) x_2)) : Int))) ((0 : Int) ≤ IntKind.wrap IntKind.u64 x ∧ cnd (IntKind.wrap IntKind.u8 (↑(BitVec.toNat (BitVec.ofInt (IntKind.bits IntKind.u8) (Int.fdiv some ((2 : Int) ^ min (Int.toNat (IntKind.wrap IntKind.u64 x)) (IntKind.bits IntKind.u8))) &&& BitVec.ofInt (IntKind.bits IntKind.u8) (1 : Int))) : Int) == (1 : Int)) ((0 : Int) ≤ x ∧ x < (↑(List.length (List.map (fun (x : List Int) ↦ x) x_2)) : Int) ∧ (List.length x_4 + List.length (List.getD (List.map (fun (x : List Int) ↦ x) x_2) (Int.toNat x) ([] : List Int) :: ([] : List (List Int)))) * (24 : Nat) ≤ (140737488355328 : Nat) ∧ I (IntKind.wrap IntKind.i64 (x + (1 : Int))) (x_4 ++ List.getD (List.map (fun (x : List Int) ↦ x) x_2) (Int.toNat x) ([] : List Int) :: ([] : List (List Int))) ∧ μ (IntKind.wrap IntKind.i64 (x + (1 : Int))) (x_4 ++ List.getD (List.map (fun (x : List Int) ↦ x) x_2) (Int.toNat x) ([] : List Int) :: ([] : List (List Int))) < μ x x_4) (I (IntKind.wrap IntKind.i64 (x + (1 : Int))) x_4 ∧ μ (IntKind.wrap IntKind.i64 (x + (1 : Int))) x_4 < μ x x_4)) (cnd (Prod.fst (Prod.snd r_10) == (0 : Int)) (f50_wp ((Prod.fst r, Prod.fst (Prod.snd r), Prod.snd (Prod.snd r)), x_3, ([] : List (Int × Int)), ()) () fun (r_11 : Bool) ↦ cnd r_11 (List.length x_4 ≤ (9223372036854775807 : Nat) → List.length x_3 ≤ (9223372036854775807 : Nat) → cnd (decide ((↑(List.length x_4) : Int) ≤ (↑(List.length x_3) : Int))) (f18_wp () () fun (r : Bool) ↦ Q r) (f50_wp ((Prod.fst r, Prod.fst (Prod.snd r), Prod.snd (Prod.snd r)), x_4, ([] : List (Int × Int)), ()) () fun (r : Bool) ↦ cnd (!r) (f18_wp () () fun (r : Bool) ↦ Q r) (Q false))) (Q false)) (Q false)))))))))) (cnd (Prod.fst (Prod.snd r_4) != (6 : Int)) (cnd (Prod.fst (Prod.snd r_4) != (0 : Int)) (Q false) (List.length (Prod.fst r_4) ≤ (9223372036854775807 : Nat) → cnd ((↑(List.length (Prod.fst r_4)) : Int) == (0 : Int)) (Q false) (List.length (Prod.fst r_4) ≤ (9223372036854775807 : Nat) → cnd (decide ((↑(List.length (Prod.fst r_4)) : Int) > x_1)) (Q false) (List.length (List.map (fun (x : List Int) ↦ x) x_2) ≤ (9223372036854775807 : Nat) → f51_wp (Prod.fst r_4, (↑(List.length (List.map (fun (x : List Int) ↦ x) x_2)) : Int), ()) () fun (r_5 : Bool) ↦ cnd (!r_5) (Q false) (f50_wp ((Prod.fst r, Prod.fst (Prod.snd r), Prod.snd (Prod.snd r)), List.map (fun (x : List Int) ↦ x) x_2, Prod.fst r_4, ()) () fun (r_6 : Bool) ↦ cnd (!r_6) (Q false) (∃ (I : Int → Prop), ∃ (μ : Int → Nat), I (0 : Int) ∧ ∀ (x : Int), I x → List.length (Prod.fst r_4) ≤ (9223372036854775807 : Nat) → cnd (decide (x < (↑(List.length (Prod.fst r_4)) : Int))) ((0 : Int) ≤ (0 : Int) ∧ (0 : Int) ≤ x ∧ x ≤ (↑(List.length (Prod.fst r_4)) : Int) ∧ (List.length ([] : List (Int × Int)) + List.length (List.drop (Int.toNat (0 : Int)) (List.take (Int.toNat x) (Prod.fst r_4)))) * (16 : Nat) ≤ (140737488355328 : Nat) ∧ (0 : Int) ≤ IntKind.wrap IntKind.i64 (x + (1 : Int)) ∧ IntKind.wrap IntKind.i64 (x + (1 : Int)) ≤ (↑(List.length (Prod.fst r_4)) : Int) ∧ (↑(List.length (Prod.fst r_4)) : Int) ≤ (↑(List.length (Prod.fst r_4)) : Int) ∧ (List.length (([] : List (Int × Int)) ++ List.drop (Int.toNat (0 : Int)) (List.take (Int.toNat x) (Prod.fst r_4))) + List.length (List.drop (Int.toNat (IntKind.wrap IntKind.i64 (x + (1 : Int)))) (List.take (Int.toNat (↑(List.length (Prod.fst r_4)) : Int)) (Prod.fst r_4)))) * (16 : Nat) ≤ (140737488355328 : Nat) ∧ ∃ (r_7 : Bool), (f50_wp ((Prod.fst r, Prod.fst (Prod.snd r), Prod.snd (Prod.snd r)), List.map (fun (x : List Int) ↦ x) x_2, ([] : List (Int × Int)) ++ List.drop (Int.toNat (0 : Int)) (List.take (Int.toNat x) (Prod.fst r_4)) ++ List.drop (Int.toNat (IntKind.wrap IntKind.i64 (x + (1 : Int)))) (List.take (Int.toNat (↑(List.length (Prod.fst r_4)) : Int)) (Prod.fst r_4)), ()) () fun (r' : Bool) ↦ r' = r_7) ∧ cnd r_7 (Q false) (I (IntKind.wrap IntKind.i64 (x + (1 : Int))) ∧ μ (IntKind.wrap IntKind.i64 (x + (1 : Int))) < μ x)) (f47_wp (Prod.fst r, Prod.fst (Prod.snd r), Prod.snd (Prod.snd r)) () fun (r_7 : List Int × List Int × List (Int × Int)) ↦ f48_wp (List.map (fun (x : List Int) ↦ x) x_2) () fun (r_8 : List (List Int)) ↦ f29_wp ((Prod.fst r_7, Prod.fst (Prod.snd r_7), Prod.snd (Prod.snd r_7)), r_8, ()) () fun (r_9 : List Int × Int × Unit) ↦ ∃ (I : Int → List (List Int) → Prop), ∃ (μ : Int → List (List Int) → Nat), I (0 : Int) ([] : List (List Int)) ∧ ∀ (x : Int) (x_3 : List (List Int)), I x x_3 → List.length (Prod.fst r_9) ≤ (9223372036854775807 : Nat) → cnd (decide (x < (↑(List.length (Prod.fst r_9)) : Int))) ((0 : Int) ≤ x ∧ x < (↑(List.length (Prod.fst r_9)) : Int) ∧ cnd (decide (List.getD (Prod.fst r_9) (Int.toNat x) (0 : Int) < (0 : Int))) (Q false) ((0 : Int) ≤ x ∧ x < (↑(List.length (Prod.fst r_9)) : Int) ∧ cnd (decide (List.getD (Prod.fst r_9) (Int.toNat x) (0 : Int) ≥ (↑(List.length (List.map (fun (x : List Int) ↦ x) x_2)) : Int))) (Q false) (cnd (decide (x > (0 : Int))) ((0 : Int) ≤ x ∧ x < (↑(List.length (Prod.fst r_9)) : Int) ∧ (0 : Int) ≤ IntKind.wrap IntKind.i64 (x - (1 : Int)) ∧ IntKind.wrap IntKind.i64 (x - (1 : Int)) < (↑(List.length (Prod.fst r_9)) : Int) ∧ cnd (decide (List.getD (Prod.fst r_9) (Int.toNat x) (0 : Int) ≤ List.getD (Prod.fst r_9) (Int.toNat (IntKind.wrap IntKind.i64 (x - (1 : Int)))) (0 : Int))) (Q false) ((0 : Int) ≤ x ∧ x < (↑(List.length (Prod.fst r_9)) : Int) ∧ (0 : Int) ≤ List.getD (Prod.fst r_9) (Int.toNat x) (0 : Int) ∧ List.getD (Prod.fst r_9) (Int.toNat x) (0 : Int) < (↑(List.length (List.map (fun (x : List Int) ↦ x) x_2)) : Int) ∧ (List.length x_3 + List.length (List.getD (List.map (fun (x : List Int) ↦ x) x_2) (Int.toNat (List.getD (Prod.fst r_9) (Int.toNat x) (0 : Int))) ([] : List Int) :: ([] : List (List Int)))) * (24 : Nat) ≤ (140737488355328 : Nat) ∧ I (IntKind.wrap IntKind.i64 (x + (1 : Int))) (x_3 ++ List.getD (List.map (fun (x : List Int) ↦ x) x_2) (Int.toNat (List.getD (Prod.fst r_9) (Int.toNat x) (0 : Int))) ([] : List Int) :: ([] : List (List Int))) ∧ μ (IntKind.wrap IntKind.i64 (x + (1 : Int))) (x_3 ++ List.getD (List.map (fun (x : List Int) ↦ x) x_2) (Int.toNat (List.getD (Prod.fst r_9) (Int.toNat x) (0 : Int))) ([] : List Int) :: ([] : List (List Int))) < μ x x_3)) ((0 : Int) ≤ x ∧ x < (↑(List.length (Prod.fst r_9)) : Int) ∧ (0 : Int) ≤ List.getD (Prod.fst r_9) (Int.toNat x) (0 : Int) ∧ List.getD (Prod.fst r_9) (Int.toNat x) (0 : Int) < (↑(List.length (List.map (fun (x : List Int) ↦ x) x_2)) : Int) ∧ (List.length x_3 + List.length (List.getD (List.map (fun (x : List Int) ↦ x) x_2) (Int.toNat (List.getD (Prod.fst r_9) (Int.toNat x) (0 : Int))) ([] : List Int) :: ([] : List (List Int)))) * (24 : Nat) ≤ (140737488355328 : Nat) ∧ I (IntKind.wrap IntKind.i64 (x + (1 : Int))) (x_3 ++ List.getD (List.map (fun (x : List Int) ↦ x) x_2) (Int.toNat (List.getD (Prod.fst r_9) (Int.toNat x) (0 : Int))) ([] : List Int) :: ([] : List (List Int))) ∧ μ (IntKind.wrap IntKind.i64 (x + (1 : Int))) (x_3 ++ List.getD (List.map (fun (x : List Int) ↦ x) x_2) (Int.toNat (List.getD (Prod.fst r_9) (Int.toNat x) (0 : Int))) ([] : List Int) :: ([] : List (List Int))) < μ x x_3)))) (∃ (I : Int → List (List Int) → Prop), ∃ (μ : Int → List (List Int) → Nat), I (0 : Int) ([] : List (List Int)) ∧ ∀ (x : Int) (x_4 : List (List Int)), I x x_4 → List.length (List.map (fun (x : List Int) ↦ x) x_2) ≤ (9223372036854775807 : Nat) → cnd (decide (x < (↑(List.length (List.map (fun (x : List Int) ↦ x) x_2)) : Int))) ((0 : Int) ≤ IntKind.wrap IntKind.u64 x ∧ cnd (IntKind.wrap IntKind.u8 (↑(BitVec.toNat (BitVec.ofInt (IntKind.bits IntKind.u8) (Int.fdiv some ((2 : Int) ^ min (Int.toNat (IntKind.wrap IntKind.u64 x)) (IntKind.bits IntKind.u8))) &&& BitVec.ofInt (IntKind.bits IntKind.u8) (1 : Int))) : Int) == (1 : Int)) ((0 : Int) ≤ x ∧ x < (↑(List.length (List.map (fun (x : List Int) ↦ x) x_2)) : Int) ∧ (List.length x_4 + List.length (List.getD (List.map (fun (x : List Int) ↦ x) x_2) (Int.toNat x) ([] : List Int) :: ([] : List (List Int)))) * (24 : Nat) ≤ (140737488355328 : Nat) ∧ I (IntKind.wrap IntKind.i64 (x + (1 : Int))) (x_4 ++ List.getD (List.map (fun (x : List Int) ↦ x) x_2) (Int.toNat x) ([] : List Int) :: ([] : List (List Int))) ∧ μ (IntKind.wrap IntKind.i64 (x + (1 : Int))) (x_4 ++ List.getD (List.map (fun (x : List Int) ↦ x) x_2) (Int.toNat x) ([] : List Int) :: ([] : List (List Int))) < μ x x_4) (I (IntKind.wrap IntKind.i64 (x + (1 : Int))) x_4 ∧ μ (IntKind.wrap IntKind.i64 (x + (1 : Int))) x_4 < μ x x_4)) (cnd (Prod.fst (Prod.snd r_9) == (0 : Int)) (f50_wp ((Prod.fst r, Prod.fst (Prod.snd r), Prod.snd (Prod.snd r)), x_3, ([] : List (Int × Int)), ()) () fun (r_10 : Bool) ↦ cnd r_10 (List.length x_4 ≤ (9223372036854775807 : Nat) → List.length x_3 ≤ (9223372036854775807 : Nat) → cnd (decide ((↑(List.length x_4) : Int) ≤ (↑(List.length x_3) : Int))) (f18_wp () () fun (r : Bool) ↦ Q r) (f50_wp ((Prod.fst r, Prod.fst (Prod.snd r), Prod.snd (Prod.snd r)), x_4, ([] : List (Int × Int)), ()) () fun (r : Bool) ↦ cnd (!r) (f18_wp () () fun (r : Bool) ↦ Q r) (Q false))) (Q false)) (Q false)))))))))) (List.length (List.map (fun (x : List Int) ↦ x) x_2) ≤ (9223372036854775807 : Nat) → f51_wp (Prod.fst r_4, (↑(List.length (List.map (fun (x : List Int) ↦ x) x_2)) : Int), ()) () fun (r_5 : Bool) ↦ cnd (!r_5) (Q false) (f50_wp ((Prod.fst r, Prod.fst (Prod.snd r), Prod.snd (Prod.snd r)), List.map (fun (x : List Int) ↦ x) x_2, Prod.fst r_4, ()) () fun (r_6 : Bool) ↦ cnd (!r_6) (Q false) (∃ (I : Int → Prop), ∃ (μ : Int → Nat), I (0 : Int) ∧ ∀ (x : Int), I x → List.length (Prod.fst r_4) ≤ (9223372036854775807 : Nat) → cnd (decide (x < (↑(List.length (Prod.fst r_4)) : Int))) ((0 : Int) ≤ (0 : Int) ∧ (0 : Int) ≤ x ∧ x ≤ (↑(List.length (Prod.fst r_4)) : Int) ∧ (List.length ([] : List (Int × Int)) + List.length (List.drop (Int.toNat (0 : Int)) (List.take (Int.toNat x) (Prod.fst r_4)))) * (16 : Nat) ≤ (140737488355328 : Nat) ∧ (0 : Int) ≤ IntKind.wrap IntKind.i64 (x + (1 : Int)) ∧ IntKind.wrap IntKind.i64 (x + (1 : Int)) ≤ (↑(List.length (Prod.fst r_4)) : Int) ∧ (↑(List.length (Prod.fst r_4)) : Int) ≤ (↑(List.length (Prod.fst r_4)) : Int) ∧ (List.length (([] : List (Int × Int)) ++ List.drop (Int.toNat (0 : Int)) (List.take (Int.toNat x) (Prod.fst r_4))) + List.length (List.drop (Int.toNat (IntKind.wrap IntKind.i64 (x + (1 : Int)))) (List.take (Int.toNat (↑(List.length (Prod.fst r_4)) : Int)) (Prod.fst r_4)))) * (16 : Nat) ≤ (140737488355328 : Nat) ∧ ∃ (r_7 : Bool), (f50_wp ((Prod.fst r, Prod.fst (Prod.snd r), Prod.snd (Prod.snd r)), List.map (fun (x : List Int) ↦ x) x_2, ([] : List (Int × Int)) ++ List.drop (Int.toNat (0 : Int)) (List.take (Int.toNat x) (Prod.fst r_4)) ++ List.drop (Int.toNat (IntKind.wrap IntKind.i64 (x + (1 : Int)))) (List.take (Int.toNat (↑(List.length (Prod.fst r_4)) : Int)) (Prod.fst r_4)), ()) () fun (r' : Bool) ↦ r' = r_7) ∧ cnd r_7 (Q false) (I (IntKind.wrap IntKind.i64 (x + (1 : Int))) ∧ μ (IntKind.wrap IntKind.i64 (x + (1 : Int))) < μ x)) (f47_wp (Prod.fst r, Prod.fst (Prod.snd r), Prod.snd (Prod.snd r)) () fun (r_7 : List Int × List Int × List (Int × Int)) ↦ f48_wp (List.map (fun (x : List Int) ↦ x) x_2) () fun (r_8 : List (List Int)) ↦ f29_wp ((Prod.fst r_7, Prod.fst (Prod.snd r_7), Prod.snd (Prod.snd r_7)), r_8, ()) () fun (r_9 : List Int × Int × Unit) ↦ ∃ (I : Int → List (List Int) → Prop), ∃ (μ : Int → List (List Int) → Nat), I (0 : Int) ([] : List (List Int)) ∧ ∀ (x : Int) (x_3 : List (List Int)), I x x_3 → List.length (Prod.fst r_9) ≤ (9223372036854775807 : Nat) → cnd (decide (x < (↑(List.length (Prod.fst r_9)) : Int))) ((0 : Int) ≤ x ∧ x < (↑(List.length (Prod.fst r_9)) : Int) ∧ cnd (decide (List.getD (Prod.fst r_9) (Int.toNat x) (0 : Int) < (0 : Int))) (Q false) ((0 : Int) ≤ x ∧ x < (↑(List.length (Prod.fst r_9)) : Int) ∧ cnd (decide (List.getD (Prod.fst r_9) (Int.toNat x) (0 : Int) ≥ (↑(List.length (List.map (fun (x : List Int) ↦ x) x_2)) : Int))) (Q false) (cnd (decide (x > (0 : Int))) ((0 : Int) ≤ x ∧ x < (↑(List.length (Prod.fst r_9)) : Int) ∧ (0 : Int) ≤ IntKind.wrap IntKind.i64 (x - (1 : Int)) ∧ IntKind.wrap IntKind.i64 (x - (1 : Int)) < (↑(List.length (Prod.fst r_9)) : Int) ∧ cnd (decide (List.getD (Prod.fst r_9) (Int.toNat x) (0 : Int) ≤ List.getD (Prod.fst r_9) (Int.toNat (IntKind.wrap IntKind.i64 (x - (1 : Int)))) (0 : Int))) (Q false) ((0 : Int) ≤ x ∧ x < (↑(List.length (Prod.fst r_9)) : Int) ∧ (0 : Int) ≤ List.getD (Prod.fst r_9) (Int.toNat x) (0 : Int) ∧ List.getD (Prod.fst r_9) (Int.toNat x) (0 : Int) < (↑(List.length (List.map (fun (x : List Int) ↦ x) x_2)) : Int) ∧ (List.length x_3 + List.length (List.getD (List.map (fun (x : List Int) ↦ x) x_2) (Int.toNat (List.getD (Prod.fst r_9) (Int.toNat x) (0 : Int))) ([] : List Int) :: ([] : List (List Int)))) * (24 : Nat) ≤ (140737488355328 : Nat) ∧ I (IntKind.wrap IntKind.i64 (x + (1 : Int))) (x_3 ++ List.getD (List.map (fun (x : List Int) ↦ x) x_2) (Int.toNat (List.getD (Prod.fst r_9) (Int.toNat x) (0 : Int))) ([] : List Int) :: ([] : List (List Int))) ∧ μ (IntKind.wrap IntKind.i64 (x + (1 : Int))) (x_3 ++ List.getD (List.map (fun (x : List Int) ↦ x) x_2) (Int.toNat (List.getD (Prod.fst r_9) (Int.toNat x) (0 : Int))) ([] : List Int) :: ([] : List (List Int))) < μ x x_3)) ((0 : Int) ≤ x ∧ x < (↑(List.length (Prod.fst r_9)) : Int) ∧ (0 : Int) ≤ List.getD (Prod.fst r_9) (Int.toNat x) (0 : Int) ∧ List.getD (Prod.fst r_9) (Int.toNat x) (0 : Int) < (↑(List.length (List.map (fun (x : List Int) ↦ x) x_2)) : Int) ∧ (List.length x_3 + List.length (List.getD (List.map (fun (x : List Int) ↦ x) x_2) (Int.toNat (List.getD (Prod.fst r_9) (Int.toNat x) (0 : Int))) ([] : List Int) :: ([] : List (List Int)))) * (24 : Nat) ≤ (140737488355328 : Nat) ∧ I (IntKind.wrap IntKind.i64 (x + (1 : Int))) (x_3 ++ List.getD (List.map (fun (x : List Int) ↦ x) x_2) (Int.toNat (List.getD (Prod.fst r_9) (Int.toNat x) (0 : Int))) ([] : List Int) :: ([] : List (List Int))) ∧ μ (IntKind.wrap IntKind.i64 (x + (1 : Int))) (x_3 ++ List.getD (List.map (fun (x : List Int) ↦ x) x_2) (Int.toNat (List.getD (Prod.fst r_9) (Int.toNat x) (0 : Int))) ([] : List Int) :: ([] : List (List Int))) < μ x x_3)))) (∃ (I : Int → List (List Int) → Prop), ∃ (μ : Int → List (List Int) → Nat), I (0 : Int) ([] : List (List Int)) ∧ ∀ (x : Int) (x_4 : List (List Int)), I x x_4 → List.length (List.map (fun (x : List Int) ↦ x) x_2) ≤ (9223372036854775807 : Nat) → cnd (decide (x < (↑(List.length (List.map (fun (x : List Int) ↦ x) x_2)) : Int))) ((0 : Int) ≤ IntKind.wrap IntKind.u64 x ∧ cnd (IntKind.wrap IntKind.u8 (↑(BitVec.toNat (BitVec.ofInt (IntKind.bits IntKind.u8) (Int.fdiv some ((2 : Int) ^ min (Int.toNat (IntKind.wrap IntKind.u64 x)) (IntKind.bits IntKind.u8))) &&& BitVec.ofInt (IntKind.bits IntKind.u8) (1 : Int))) : Int) == (1 : Int)) ((0 : Int) ≤ x ∧ x < (↑(List.length (List.map (fun (x : List Int) ↦ x) x_2)) : Int) ∧ (List.length x_4 + List.length (List.getD (List.map (fun (x : List Int) ↦ x) x_2) (Int.toNat x) ([] : List Int) :: ([] : List (List Int)))) * (24 : Nat) ≤ (140737488355328 : Nat) ∧ I (IntKind.wrap IntKind.i64 (x + (1 : Int))) (x_4 ++ List.getD (List.map (fun (x : List Int) ↦ x) x_2) (Int.toNat x) ([] : List Int) :: ([] : List (List Int))) ∧ μ (IntKind.wrap IntKind.i64 (x + (1 : Int))) (x_4 ++ List.getD (List.map (fun (x : List Int) ↦ x) x_2) (Int.toNat x) ([] : List Int) :: ([] : List (List Int))) < μ x x_4) (I (IntKind.wrap IntKind.i64 (x + (1 : Int))) x_4 ∧ μ (IntKind.wrap IntKind.i64 (x + (1 : Int))) x_4 < μ x x_4)) (cnd (Prod.fst (Prod.snd r_9) == (0 : Int)) (f50_wp ((Prod.fst r, Prod.fst (Prod.snd r), Prod.snd (Prod.snd r)), x_3, ([] : List (Int × Int)), ()) () fun (r_10 : Bool) ↦ cnd r_10 (List.length x_4 ≤ (9223372036854775807 : Nat) → List.length x_3 ≤ (9223372036854775807 : Nat) → cnd (decide ((↑(List.length x_4) : Int) ≤ (↑(List.length x_3) : Int))) (f18_wp () () fun (r : Bool) ↦ Q r) (f50_wp ((Prod.fst r, Prod.fst (Prod.snd r), Prod.snd (Prod.snd r)), x_4, ([] : List (Int × Int)), ()) () fun (r : Bool) ↦ cnd (!r) (f18_wp () () fun (r : Bool) ↦ Q r) (Q false))) (Q false)) (Q false)))))))))) (f47_wp (Prod.fst r, Prod.fst (Prod.snd r), Prod.snd (Prod.snd r)) () fun (r_2 : List Int × List Int × List (Int × Int)) ↦ f48_wp (List.map (fun (x : List Int) ↦ x) x_2) () fun (r_3 : List (List Int)) ↦ f34_wp ((Prod.fst r_2, Prod.fst (Prod.snd r_2), Prod.snd (Prod.snd r_2)), r_3, ()) () fun (r_4 : List (Int × Int) × Int × Unit) ↦ cnd (Prod.fst (Prod.snd r_4) == (6 : Int)) (List.length (Prod.fst r_4) ≤ (9223372036854775807 : Nat) → cnd (decide ((↑(List.length (Prod.fst r_4)) : Int) > (0 : Int))) (Q false) (f50_wp ((Prod.fst r, Prod.fst (Prod.snd r), Prod.snd (Prod.snd r)), List.map (fun (x : List Int) ↦ x) x_2, ([] : List (Int × Int)), ()) () fun (r_5 : Bool) ↦ cnd (!r_5) (Q false) (cnd (Prod.fst (Prod.snd r_4) != (6 : Int)) (cnd (Prod.fst (Prod.snd r_4) != (0 : Int)) (Q false) (List.length (Prod.fst r_4) ≤ (9223372036854775807 : Nat) → cnd ((↑(List.length (Prod.fst r_4)) : Int) == (0 : Int)) (Q false) (List.length (Prod.fst r_4) ≤ (9223372036854775807 : Nat) → cnd (decide ((↑(List.length (Prod.fst r_4)) : Int) > x_1)) (Q false) (List.length (List.map (fun (x : List Int) ↦ x) x_2) ≤ (9223372036854775807 : Nat) → f51_wp (Prod.fst r_4, (↑(List.length (List.map (fun (x : List Int) ↦ x) x_2)) : Int), ()) () fun (r_6 : Bool) ↦ cnd (!r_6) (Q false) (f50_wp ((Prod.fst r, Prod.fst (Prod.snd r), Prod.snd (Prod.snd r)), List.map (fun (x : List Int) ↦ x) x_2, Prod.fst r_4, ()) () fun (r_7 : Bool) ↦ cnd (!r_7) (Q false) (∃ (I : Int → Prop), ∃ (μ : Int → Nat), I (0 : Int) ∧ ∀ (x : Int), I x → List.length (Prod.fst r_4) ≤ (9223372036854775807 : Nat) → cnd (decide (x < (↑(List.length (Prod.fst r_4)) : Int))) ((0 : Int) ≤ (0 : Int) ∧ (0 : Int) ≤ x ∧ x ≤ (↑(List.length (Prod.fst r_4)) : Int) ∧ (List.length ([] : List (Int × Int)) + List.length (List.drop (Int.toNat (0 : Int)) (List.take (Int.toNat x) (Prod.fst r_4)))) * (16 : Nat) ≤ (140737488355328 : Nat) ∧ (0 : Int) ≤ IntKind.wrap IntKind.i64 (x + (1 : Int)) ∧ IntKind.wrap IntKind.i64 (x + (1 : Int)) ≤ (↑(List.length (Prod.fst r_4)) : Int) ∧ (↑(List.length (Prod.fst r_4)) : Int) ≤ (↑(List.length (Prod.fst r_4)) : Int) ∧ (List.length (([] : List (Int × Int)) ++ List.drop (Int.toNat (0 : Int)) (List.take (Int.toNat x) (Prod.fst r_4))) + List.length (List.drop (Int.toNat (IntKind.wrap IntKind.i64 (x + (1 : Int)))) (List.take (Int.toNat (↑(List.length (Prod.fst r_4)) : Int)) (Prod.fst r_4)))) * (16 : Nat) ≤ (140737488355328 : Nat) ∧ ∃ (r_8 : Bool), (f50_wp ((Prod.fst r, Prod.fst (Prod.snd r), Prod.snd (Prod.snd r)), List.map (fun (x : List Int) ↦ x) x_2, ([] : List (Int × Int)) ++ List.drop (Int.toNat (0 : Int)) (List.take (Int.toNat x) (Prod.fst r_4)) ++ List.drop (Int.toNat (IntKind.wrap IntKind.i64 (x + (1 : Int)))) (List.take (Int.toNat (↑(List.length (Prod.fst r_4)) : Int)) (Prod.fst r_4)), ()) () fun (r' : Bool) ↦ r' = r_8) ∧ cnd r_8 (Q false) (I (IntKind.wrap IntKind.i64 (x + (1 : Int))) ∧ μ (IntKind.wrap IntKind.i64 (x + (1 : Int))) < μ x)) (f47_wp (Prod.fst r, Prod.fst (Prod.snd r), Prod.snd (Prod.snd r)) () fun (r_8 : List Int × List Int × List (Int × Int)) ↦ f48_wp (List.map (fun (x : List Int) ↦ x) x_2) () fun (r_9 : List (List Int)) ↦ f29_wp ((Prod.fst r_8, Prod.fst (Prod.snd r_8), Prod.snd (Prod.snd r_8)), r_9, ()) () fun (r_10 : List Int × Int × Unit) ↦ ∃ (I : Int → List (List Int) → Prop), ∃ (μ : Int → List (List Int) → Nat), I (0 : Int) ([] : List (List Int)) ∧ ∀ (x : Int) (x_3 : List (List Int)), I x x_3 → List.length (Prod.fst r_10) ≤ (9223372036854775807 : Nat) → cnd (decide (x < (↑(List.length (Prod.fst r_10)) : Int))) ((0 : Int) ≤ x ∧ x < (↑(List.length (Prod.fst r_10)) : Int) ∧ cnd (decide (List.getD (Prod.fst r_10) (Int.toNat x) (0 : Int) < (0 : Int))) (Q false) ((0 : Int) ≤ x ∧ x < (↑(List.length (Prod.fst r_10)) : Int) ∧ cnd (decide (List.getD (Prod.fst r_10) (Int.toNat x) (0 : Int) ≥ (↑(List.length (List.map (fun (x : List Int) ↦ x) x_2)) : Int))) (Q false) (cnd (decide (x > (0 : Int))) ((0 : Int) ≤ x ∧ x < (↑(List.length (Prod.fst r_10)) : Int) ∧ (0 : Int) ≤ IntKind.wrap IntKind.i64 (x - (1 : Int)) ∧ IntKind.wrap IntKind.i64 (x - (1 : Int)) < (↑(List.length (Prod.fst r_10)) : Int) ∧ cnd (decide (List.getD (Prod.fst r_10) (Int.toNat x) (0 : Int) ≤ List.getD (Prod.fst r_10) (Int.toNat (IntKind.wrap IntKind.i64 (x - (1 : Int)))) (0 : Int))) (Q false) ((0 : Int) ≤ x ∧ x < (↑(List.length (Prod.fst r_10)) : Int) ∧ (0 : Int) ≤ List.getD (Prod.fst r_10) (Int.toNat x) (0 : Int) ∧ List.getD (Prod.fst r_10) (Int.toNat x) (0 : Int) < (↑(List.length (List.map (fun (x : List Int) ↦ x) x_2)) : Int) ∧ (List.length x_3 + List.length (List.getD (List.map (fun (x : List Int) ↦ x) x_2) (Int.toNat (List.getD (Prod.fst r_10) (Int.toNat x) (0 : Int))) ([] : List Int) :: ([] : List (List Int)))) * (24 : Nat) ≤ (140737488355328 : Nat) ∧ I (IntKind.wrap IntKind.i64 (x + (1 : Int))) (x_3 ++ List.getD (List.map (fun (x : List Int) ↦ x) x_2) (Int.toNat (List.getD (Prod.fst r_10) (Int.toNat x) (0 : Int))) ([] : List Int) :: ([] : List (List Int))) ∧ μ (IntKind.wrap IntKind.i64 (x + (1 : Int))) (x_3 ++ List.getD (List.map (fun (x : List Int) ↦ x) x_2) (Int.toNat (List.getD (Prod.fst r_10) (Int.toNat x) (0 : Int))) ([] : List Int) :: ([] : List (List Int))) < μ x x_3)) ((0 : Int) ≤ x ∧ x < (↑(List.length (Prod.fst r_10)) : Int) ∧ (0 : Int) ≤ List.getD (Prod.fst r_10) (Int.toNat x) (0 : Int) ∧ List.getD (Prod.fst r_10) (Int.toNat x) (0 : Int) < (↑(List.length (List.map (fun (x : List Int) ↦ x) x_2)) : Int) ∧ (List.length x_3 + List.length (List.getD (List.map (fun (x : List Int) ↦ x) x_2) (Int.toNat (List.getD (Prod.fst r_10) (Int.toNat x) (0 : Int))) ([] : List Int) :: ([] : List (List Int)))) * (24 : Nat) ≤ (140737488355328 : Nat) ∧ I (IntKind.wrap IntKind.i64 (x + (1 : Int))) (x_3 ++ List.getD (List.map (fun (x : List Int) ↦ x) x_2) (Int.toNat (List.getD (Prod.fst r_10) (Int.toNat x) (0 : Int))) ([] : List Int) :: ([] : List (List Int))) ∧ μ (IntKind.wrap IntKind.i64 (x + (1 : Int))) (x_3 ++ List.getD (List.map (fun (x : List Int) ↦ x) x_2) (Int.toNat (List.getD (Prod.fst r_10) (Int.toNat x) (0 : Int))) ([] : List Int) :: ([] : List (List Int))) < μ x x_3)))) (∃ (I : Int → List (List Int) → Prop), ∃ (μ : Int → List (List Int) → Nat), I (0 : Int) ([] : List (List Int)) ∧ ∀ (x : Int) (x_4 : List (List Int)), I x x_4 → List.length (List.map (fun (x : List Int) ↦ x) x_2) ≤ (9223372036854775807 : Nat) → cnd (decide (x < (↑(List.length (List.map (fun (x : List Int) ↦ x) x_2)) : Int))) ((0 : Int) ≤ IntKind.wrap IntKind.u64 x ∧ cnd (IntKind.wrap IntKind.u8 (↑(BitVec.toNat (BitVec.ofInt (IntKind.bits IntKind.u8) (Int.fdiv some ((2 : Int) ^ min (Int.toNat (IntKind.wrap IntKind.u64 x)) (IntKind.bits IntKind.u8))) &&& BitVec.ofInt (IntKind.bits IntKind.u8) (1 : Int))) : Int) == (1 : Int)) ((0 : Int) ≤ x ∧ x < (↑(List.length (List.map (fun (x : List Int) ↦ x) x_2)) : Int) ∧ (List.length x_4 + List.length (List.getD (List.map (fun (x : List Int) ↦ x) x_2) (Int.toNat x) ([] : List Int) :: ([] : List (List Int)))) * (24 : Nat) ≤ (140737488355328 : Nat) ∧ I (IntKind.wrap IntKind.i64 (x + (1 : Int))) (x_4 ++ List.getD (List.map (fun (x : List Int) ↦ x) x_2) (Int.toNat x) ([] : List Int) :: ([] : List (List Int))) ∧ μ (IntKind.wrap IntKind.i64 (x + (1 : Int))) (x_4 ++ List.getD (List.map (fun (x : List Int) ↦ x) x_2) (Int.toNat x) ([] : List Int) :: ([] : List (List Int))) < μ x x_4) (I (IntKind.wrap IntKind.i64 (x + (1 : Int))) x_4 ∧ μ (IntKind.wrap IntKind.i64 (x + (1 : Int))) x_4 < μ x x_4)) (cnd (Prod.fst (Prod.snd r_10) == (0 : Int)) (f50_wp ((Prod.fst r, Prod.fst (Prod.snd r), Prod.snd (Prod.snd r)), x_3, ([] : List (Int × Int)), ()) () fun (r_11 : Bool) ↦ cnd r_11 (List.length x_4 ≤ (9223372036854775807 : Nat) → List.length x_3 ≤ (9223372036854775807 : Nat) → cnd (decide ((↑(List.length x_4) : Int) ≤ (↑(List.length x_3) : Int))) (f18_wp () () fun (r : Bool) ↦ Q r) (f50_wp ((Prod.fst r, Prod.fst (Prod.snd r), Prod.snd (Prod.snd r)), x_4, ([] : List (Int × Int)), ()) () fun (r : Bool) ↦ cnd (!r) (f18_wp () () fun (r : Bool) ↦ Q r) (Q false))) (Q false)) (Q false)))))))))) (List.length (List.map (fun (x : List Int) ↦ x) x_2) ≤ (9223372036854775807 : Nat) → f51_wp (Prod.fst r_4, (↑(List.length (List.map (fun (x : List Int) ↦ x) x_2)) : Int), ()) () fun (r_6 : Bool) ↦ cnd (!r_6) (Q false) (f50_wp ((Prod.fst r, Prod.fst (Prod.snd r), Prod.snd (Prod.snd r)), List.map (fun (x : List Int) ↦ x) x_2, Prod.fst r_4, ()) () fun (r_7 : Bool) ↦ cnd (!r_7) (Q false) (∃ (I : Int → Prop), ∃ (μ : Int → Nat), I (0 : Int) ∧ ∀ (x : Int), I x → List.length (Prod.fst r_4) ≤ (9223372036854775807 : Nat) → cnd (decide (x < (↑(List.length (Prod.fst r_4)) : Int))) ((0 : Int) ≤ (0 : Int) ∧ (0 : Int) ≤ x ∧ x ≤ (↑(List.length (Prod.fst r_4)) : Int) ∧ (List.length ([] : List (Int × Int)) + List.length (List.drop (Int.toNat (0 : Int)) (List.take (Int.toNat x) (Prod.fst r_4)))) * (16 : Nat) ≤ (140737488355328 : Nat) ∧ (0 : Int) ≤ IntKind.wrap IntKind.i64 (x + (1 : Int)) ∧ IntKind.wrap IntKind.i64 (x + (1 : Int)) ≤ (↑(List.length (Prod.fst r_4)) : Int) ∧ (↑(List.length (Prod.fst r_4)) : Int) ≤ (↑(List.length (Prod.fst r_4)) : Int) ∧ (List.length (([] : List (Int × Int)) ++ List.drop (Int.toNat (0 : Int)) (List.take (Int.toNat x) (Prod.fst r_4))) + List.length (List.drop (Int.toNat (IntKind.wrap IntKind.i64 (x + (1 : Int)))) (List.take (Int.toNat (↑(List.length (Prod.fst r_4)) : Int)) (Prod.fst r_4)))) * (16 : Nat) ≤ (140737488355328 : Nat) ∧ ∃ (r_8 : Bool), (f50_wp ((Prod.fst r, Prod.fst (Prod.snd r), Prod.snd (Prod.snd r)), List.map (fun (x : List Int) ↦ x) x_2, ([] : List (Int × Int)) ++ List.drop (Int.toNat (0 : Int)) (List.take (Int.toNat x) (Prod.fst r_4)) ++ List.drop (Int.toNat (IntKind.wrap IntKind.i64 (x + (1 : Int)))) (List.take (Int.toNat (↑(List.length (Prod.fst r_4)) : Int)) (Prod.fst r_4)), ()) () fun (r' : Bool) ↦ r' = r_8) ∧ cnd r_8 (Q false) (I (IntKind.wrap IntKind.i64 (x + (1 : Int))) ∧ μ (IntKind.wrap IntKind.i64 (x + (1 : Int))) < μ x)) (f47_wp (Prod.fst r, Prod.fst (Prod.snd r), Prod.snd (Prod.snd r)) () fun (r_8 : List Int × List Int × List (Int × Int)) ↦ f48_wp (List.map (fun (x : List Int) ↦ x) x_2) () fun (r_9 : List (List Int)) ↦ f29_wp ((Prod.fst r_8, Prod.fst (Prod.snd r_8), Prod.snd (Prod.snd r_8)), r_9, ()) () fun (r_10 : List Int × Int × Unit) ↦ ∃ (I : Int → List (List Int) → Prop), ∃ (μ : Int → List (List Int) → Nat), I (0 : Int) ([] : List (List Int)) ∧ ∀ (x : Int) (x_3 : List (List Int)), I x x_3 → List.length (Prod.fst r_10) ≤ (9223372036854775807 : Nat) → cnd (decide (x < (↑(List.length (Prod.fst r_10)) : Int))) ((0 : Int) ≤ x ∧ x < (↑(List.length (Prod.fst r_10)) : Int) ∧ cnd (decide (List.getD (Prod.fst r_10) (Int.toNat x) (0 : Int) < (0 : Int))) (Q false) ((0 : Int) ≤ x ∧ x < (↑(List.length (Prod.fst r_10)) : Int) ∧ cnd (decide (List.getD (Prod.fst r_10) (Int.toNat x) (0 : Int) ≥ (↑(List.length (List.map (fun (x : List Int) ↦ x) x_2)) : Int))) (Q false) (cnd (decide (x > (0 : Int))) ((0 : Int) ≤ x ∧ x < (↑(List.length (Prod.fst r_10)) : Int) ∧ (0 : Int) ≤ IntKind.wrap IntKind.i64 (x - (1 : Int)) ∧ IntKind.wrap IntKind.i64 (x - (1 : Int)) < (↑(List.length (Prod.fst r_10)) : Int) ∧ cnd (decide (List.getD (Prod.fst r_10) (Int.toNat x) (0 : Int) ≤ List.getD (Prod.fst r_10) (Int.toNat (IntKind.wrap IntKind.i64 (x - (1 : Int)))) (0 : Int))) (Q false) ((0 : Int) ≤ x ∧ x < (↑(List.length (Prod.fst r_10)) : Int) ∧ (0 : Int) ≤ List.getD (Prod.fst r_10) (Int.toNat x) (0 : Int) ∧ List.getD (Prod.fst r_10) (Int.toNat x) (0 : Int) < (↑(List.length (List.map (fun (x : List Int) ↦ x) x_2)) : Int) ∧ (List.length x_3 + List.length (List.getD (List.map (fun (x : List Int) ↦ x) x_2) (Int.toNat (List.getD (Prod.fst r_10) (Int.toNat x) (0 : Int))) ([] : List Int) :: ([] : List (List Int)))) * (24 : Nat) ≤ (140737488355328 : Nat) ∧ I (IntKind.wrap IntKind.i64 (x + (1 : Int))) (x_3 ++ List.getD (List.map (fun (x : List Int) ↦ x) x_2) (Int.toNat (List.getD (Prod.fst r_10) (Int.toNat x) (0 : Int))) ([] : List Int) :: ([] : List (List Int))) ∧ μ (IntKind.wrap IntKind.i64 (x + (1 : Int))) (x_3 ++ List.getD (List.map (fun (x : List Int) ↦ x) x_2) (Int.toNat (List.getD (Prod.fst r_10) (Int.toNat x) (0 : Int))) ([] : List Int) :: ([] : List (List Int))) < μ x x_3)) ((0 : Int) ≤ x ∧ x < (↑(List.length (Prod.fst r_10)) : Int) ∧ (0 : Int) ≤ List.getD (Prod.fst r_10) (Int.toNat x) (0 : Int) ∧ List.getD (Prod.fst r_10) (Int.toNat x) (0 : Int) < (↑(List.length (List.map (fun (x : List Int) ↦ x) x_2)) : Int) ∧ (List.length x_3 + List.length (List.getD (List.map (fun (x : List Int) ↦ x) x_2) (Int.toNat (List.getD (Prod.fst r_10) (Int.toNat x) (0 : Int))) ([] : List Int) :: ([] : List (List Int)))) * (24 : Nat) ≤ (140737488355328 : Nat) ∧ I (IntKind.wrap IntKind.i64 (x + (1 : Int))) (x_3 ++ List.getD (List.map (fun (x : List Int) ↦ x) x_2) (Int.toNat (List.getD (Prod.fst r_10) (Int.toNat x) (0 : Int))) ([] : List Int) :: ([] : List (List Int))) ∧ μ (IntKind.wrap IntKind.i64 (x + (1 : Int))) (x_3 ++ List.getD (List.map (fun (x : List Int) ↦ x) x_2) (Int.toNat (List.getD (Prod.fst r_10) (Int.toNat x) (0 : Int))) ([] : List Int) :: ([] : List (List Int))) < μ x x_3)))) (∃ (I : Int → List (List Int) → Prop), ∃ (μ : Int → List (List Int) → Nat), I (0 : Int) ([] : List (List Int)) ∧ ∀ (x : Int) (x_4 : List (List Int)), I x x_4 → List.length (List.map (fun (x : List Int) ↦ x) x_2) ≤ (9223372036854775807 : Nat) → cnd (decide (x < (↑(List.length (List.map (fun (x : List Int) ↦ x) x_2)) : Int))) ((0 : Int) ≤ IntKind.wrap IntKind.u64 x ∧ cnd (IntKind.wrap IntKind.u8 (↑(BitVec.toNat (BitVec.ofInt (IntKind.bits IntKind.u8) (Int.fdiv some ((2 : Int) ^ min (Int.toNat (IntKind.wrap IntKind.u64 x)) (IntKind.bits IntKind.u8))) &&& BitVec.ofInt (IntKind.bits IntKind.u8) (1 : Int))) : Int) == (1 : Int)) ((0 : Int) ≤ x ∧ x < (↑(List.length (List.map (fun (x : List Int) ↦ x) x_2)) : Int) ∧ (List.length x_4 + List.length (List.getD (List.map (fun (x : List Int) ↦ x) x_2) (Int.toNat x) ([] : List Int) :: ([] : List (List Int)))) * (24 : Nat) ≤ (140737488355328 : Nat) ∧ I (IntKind.wrap IntKind.i64 (x + (1 : Int))) (x_4 ++ List.getD (List.map (fun (x : List Int) ↦ x) x_2) (Int.toNat x) ([] : List Int) :: ([] : List (List Int))) ∧ μ (IntKind.wrap IntKind.i64 (x + (1 : Int))) (x_4 ++ List.getD (List.map (fun (x : List Int) ↦ x) x_2) (Int.toNat x) ([] : List Int) :: ([] : List (List Int))) < μ x x_4) (I (IntKind.wrap IntKind.i64 (x + (1 : Int))) x_4 ∧ μ (IntKind.wrap IntKind.i64 (x + (1 : Int))) x_4 < μ x x_4)) (cnd (Prod.fst (Prod.snd r_10) == (0 : Int)) (f50_wp ((Prod.fst r, Prod.fst (Prod.snd r), Prod.snd (Prod.snd r)), x_3, ([] : List (Int × Int)), ()) () fun (r_11 : Bool) ↦ cnd r_11 (List.length x_4 ≤ (9223372036854775807 : Nat) → List.length x_3 ≤ (9223372036854775807 : Nat) → cnd (decide ((↑(List.length x_4) : Int) ≤ (↑(List.length x_3) : Int))) (f18_wp () () fun (r : Bool) ↦ Q r) (f50_wp ((Prod.fst r, Prod.fst (Prod.snd r), Prod.snd (Prod.snd r)), x_4, ([] : List (Int × Int)), ()) () fun (r : Bool) ↦ cnd (!r) (f18_wp () () fun (r : Bool) ↦ Q r) (Q false))) (Q false)) (Q false)))))))))) (cnd (Prod.fst (Prod.snd r_4) != (6 : Int)) (cnd (Prod.fst (Prod.snd r_4) != (0 : Int)) (Q false) (List.length (Prod.fst r_4) ≤ (9223372036854775807 : Nat) → cnd ((↑(List.length (Prod.fst r_4)) : Int) == (0 : Int)) (Q false) (List.length (Prod.fst r_4) ≤ (9223372036854775807 : Nat) → cnd (decide ((↑(List.length (Prod.fst r_4)) : Int) > x_1)) (Q false) (List.length (List.map (fun (x : List Int) ↦ x) x_2) ≤ (9223372036854775807 : Nat) → f51_wp (Prod.fst r_4, (↑(List.length (List.map (fun (x : List Int) ↦ x) x_2)) : Int), ()) () fun (r_5 : Bool) ↦ cnd (!r_5) (Q false) (f50_wp ((Prod.fst r, Prod.fst (Prod.snd r), Prod.snd (Prod.snd r)), List.map (fun (x : List Int) ↦ x) x_2, Prod.fst r_4, ()) () fun (r_6 : Bool) ↦ cnd (!r_6) (Q false) (∃ (I : Int → Prop), ∃ (μ : Int → Nat), I (0 : Int) ∧ ∀ (x : Int), I x → List.length (Prod.fst r_4) ≤ (9223372036854775807 : Nat) → cnd (decide (x < (↑(List.length (Prod.fst r_4)) : Int))) ((0 : Int) ≤ (0 : Int) ∧ (0 : Int) ≤ x ∧ x ≤ (↑(List.length (Prod.fst r_4)) : Int) ∧ (List.length ([] : List (Int × Int)) + List.length (List.drop (Int.toNat (0 : Int)) (List.take (Int.toNat x) (Prod.fst r_4)))) * (16 : Nat) ≤ (140737488355328 : Nat) ∧ (0 : Int) ≤ IntKind.wrap IntKind.i64 (x + (1 : Int)) ∧ IntKind.wrap IntKind.i64 (x + (1 : Int)) ≤ (↑(List.length (Prod.fst r_4)) : Int) ∧ (↑(List.length (Prod.fst r_4)) : Int) ≤ (↑(List.length (Prod.fst r_4)) : Int) ∧ (List.length (([] : List (Int × Int)) ++ List.drop (Int.toNat (0 : Int)) (List.take (Int.toNat x) (Prod.fst r_4))) + List.length (List.drop (Int.toNat (IntKind.wrap IntKind.i64 (x + (1 : Int)))) (List.take (Int.toNat (↑(List.length (Prod.fst r_4)) : Int)) (Prod.fst r_4)))) * (16 : Nat) ≤ (140737488355328 : Nat) ∧ ∃ (r_7 : Bool), (f50_wp ((Prod.fst r, Prod.fst (Prod.snd r), Prod.snd (Prod.snd r)), List.map (fun (x : List Int) ↦ x) x_2, ([] : List (Int × Int)) ++ List.drop (Int.toNat (0 : Int)) (List.take (Int.toNat x) (Prod.fst r_4)) ++ List.drop (Int.toNat (IntKind.wrap IntKind.i64 (x + (1 : Int)))) (List.take (Int.toNat (↑(List.length (Prod.fst r_4)) : Int)) (Prod.fst r_4)), ()) () fun (r' : Bool) ↦ r' = r_7) ∧ cnd r_7 (Q false) (I (IntKind.wrap IntKind.i64 (x + (1 : Int))) ∧ μ (IntKind.wrap IntKind.i64 (x + (1 : Int))) < μ x)) (f47_wp (Prod.fst r, Prod.fst (Prod.snd r), Prod.snd (Prod.snd r)) () fun (r_7 : List Int × List Int × List (Int × Int)) ↦ f48_wp (List.map (fun (x : List Int) ↦ x) x_2) () fun (r_8 : List (List Int)) ↦ f29_wp ((Prod.fst r_7, Prod.fst (Prod.snd r_7), Prod.snd (Prod.snd r_7)), r_8, ()) () fun (r_9 : List Int × Int × Unit) ↦ ∃ (I : Int → List (List Int) → Prop), ∃ (μ : Int → List (List Int) → Nat), I (0 : Int) ([] : List (List Int)) ∧ ∀ (x : Int) (x_3 : List (List Int)), I x x_3 → List.length (Prod.fst r_9) ≤ (9223372036854775807 : Nat) → cnd (decide (x < (↑(List.length (Prod.fst r_9)) : Int))) ((0 : Int) ≤ x ∧ x < (↑(List.length (Prod.fst r_9)) : Int) ∧ cnd (decide (List.getD (Prod.fst r_9) (Int.toNat x) (0 : Int) < (0 : Int))) (Q false) ((0 : Int) ≤ x ∧ x < (↑(List.length (Prod.fst r_9)) : Int) ∧ cnd (decide (List.getD (Prod.fst r_9) (Int.toNat x) (0 : Int) ≥ (↑(List.length (List.map (fun (x : List Int) ↦ x) x_2)) : Int))) (Q false) (cnd (decide (x > (0 : Int))) ((0 : Int) ≤ x ∧ x < (↑(List.length (Prod.fst r_9)) : Int) ∧ (0 : Int) ≤ IntKind.wrap IntKind.i64 (x - (1 : Int)) ∧ IntKind.wrap IntKind.i64 (x - (1 : Int)) < (↑(List.length (Prod.fst r_9)) : Int) ∧ cnd (decide (List.getD (Prod.fst r_9) (Int.toNat x) (0 : Int) ≤ List.getD (Prod.fst r_9) (Int.toNat (IntKind.wrap IntKind.i64 (x - (1 : Int)))) (0 : Int))) (Q false) ((0 : Int) ≤ x ∧ x < (↑(List.length (Prod.fst r_9)) : Int) ∧ (0 : Int) ≤ List.getD (Prod.fst r_9) (Int.toNat x) (0 : Int) ∧ List.getD (Prod.fst r_9) (Int.toNat x) (0 : Int) < (↑(List.length (List.map (fun (x : List Int) ↦ x) x_2)) : Int) ∧ (List.length x_3 + List.length (List.getD (List.map (fun (x : List Int) ↦ x) x_2) (Int.toNat (List.getD (Prod.fst r_9) (Int.toNat x) (0 : Int))) ([] : List Int) :: ([] : List (List Int)))) * (24 : Nat) ≤ (140737488355328 : Nat) ∧ I (IntKind.wrap IntKind.i64 (x + (1 : Int))) (x_3 ++ List.getD (List.map (fun (x : List Int) ↦ x) x_2) (Int.toNat (List.getD (Prod.fst r_9) (Int.toNat x) (0 : Int))) ([] : List Int) :: ([] : List (List Int))) ∧ μ (IntKind.wrap IntKind.i64 (x + (1 : Int))) (x_3 ++ List.getD (List.map (fun (x : List Int) ↦ x) x_2) (Int.toNat (List.getD (Prod.fst r_9) (Int.toNat x) (0 : Int))) ([] : List Int) :: ([] : List (List Int))) < μ x x_3)) ((0 : Int) ≤ x ∧ x < (↑(List.length (Prod.fst r_9)) : Int) ∧ (0 : Int) ≤ List.getD (Prod.fst r_9) (Int.toNat x) (0 : Int) ∧ List.getD (Prod.fst r_9) (Int.toNat x) (0 : Int) < (↑(List.length (List.map (fun (x : List Int) ↦ x) x_2)) : Int) ∧ (List.length x_3 + List.length (List.getD (List.map (fun (x : List Int) ↦ x) x_2) (Int.toNat (List.getD (Prod.fst r_9) (Int.toNat x) (0 : Int))) ([] : List Int) :: ([] : List (List Int)))) * (24 : Nat) ≤ (140737488355328 : Nat) ∧ I (IntKind.wrap IntKind.i64 (x + (1 : Int))) (x_3 ++ List.getD (List.map (fun (x : List Int) ↦ x) x_2) (Int.toNat (List.getD (Prod.fst r_9) (Int.toNat x) (0 : Int))) ([] : List Int) :: ([] : List (List Int))) ∧ μ (IntKind.wrap IntKind.i64 (x + (1 : Int))) (x_3 ++ List.getD (List.map (fun (x : List Int) ↦ x) x_2) (Int.toNat (List.getD (Prod.fst r_9) (Int.toNat x) (0 : Int))) ([] : List Int) :: ([] : List (List Int))) < μ x x_3)))) (∃ (I : Int → List (List Int) → Prop), ∃ (μ : Int → List (List Int) → Nat), I (0 : Int) ([] : List (List Int)) ∧ ∀ (x : Int) (x_4 : List (List Int)), I x x_4 → List.length (List.map (fun (x : List Int) ↦ x) x_2) ≤ (9223372036854775807 : Nat) → cnd (decide (x < (↑(List.length (List.map (fun (x : List Int) ↦ x) x_2)) : Int))) ((0 : Int) ≤ IntKind.wrap IntKind.u64 x ∧ cnd (IntKind.wrap IntKind.u8 (↑(BitVec.toNat (BitVec.ofInt (IntKind.bits IntKind.u8) (Int.fdiv some ((2 : Int) ^ min (Int.toNat (IntKind.wrap IntKind.u64 x)) (IntKind.bits IntKind.u8))) &&& BitVec.ofInt (IntKind.bits IntKind.u8) (1 : Int))) : Int) == (1 : Int)) ((0 : Int) ≤ x ∧ x < (↑(List.length (List.map (fun (x : List Int) ↦ x) x_2)) : Int) ∧ (List.length x_4 + List.length (List.getD (List.map (fun (x : List Int) ↦ x) x_2) (Int.toNat x) ([] : List Int) :: ([] : List (List Int)))) * (24 : Nat) ≤ (140737488355328 : Nat) ∧ I (IntKind.wrap IntKind.i64 (x + (1 : Int))) (x_4 ++ List.getD (List.map (fun (x : List Int) ↦ x) x_2) (Int.toNat x) ([] : List Int) :: ([] : List (List Int))) ∧ μ (IntKind.wrap IntKind.i64 (x + (1 : Int))) (x_4 ++ List.getD (List.map (fun (x : List Int) ↦ x) x_2) (Int.toNat x) ([] : List Int) :: ([] : List (List Int))) < μ x x_4) (I (IntKind.wrap IntKind.i64 (x + (1 : Int))) x_4 ∧ μ (IntKind.wrap IntKind.i64 (x + (1 : Int))) x_4 < μ x x_4)) (cnd (Prod.fst (Prod.snd r_9) == (0 : Int)) (f50_wp ((Prod.fst r, Prod.fst (Prod.snd r), Prod.snd (Prod.snd r)), x_3, ([] : List (Int × Int)), ()) () fun (r_10 : Bool) ↦ cnd r_10 (List.length x_4 ≤ (9223372036854775807 : Nat) → List.length x_3 ≤ (9223372036854775807 : Nat) → cnd (decide ((↑(List.length x_4) : Int) ≤ (↑(List.length x_3) : Int))) (f18_wp () () fun (r : Bool) ↦ Q r) (f50_wp ((Prod.fst r, Prod.fst (Prod.snd r), Prod.snd (Prod.snd r)), x_4, ([] : List (Int × Int)), ()) () fun (r : Bool) ↦ cnd (!r) (f18_wp () () fun (r : Bool) ↦ Q r) (Q false))) (Q false)) (Q false)))))))))) (List.length (List.map (fun (x : List Int) ↦ x) x_2) ≤ (9223372036854775807 : Nat) → f51_wp (Prod.fst r_4, (↑(List.length (List.map (fun (x : List Int) ↦ x) x_2)) : Int), ()) () fun (r_5 : Bool) ↦ cnd (!r_5) (Q false) (f50_wp ((Prod.fst r, Prod.fst (Prod.snd r), Prod.snd (Prod.snd r)), List.map (fun (x : List Int) ↦ x) x_2, Prod.fst r_4, ()) () fun (r_6 : Bool) ↦ cnd (!r_6) (Q false) (∃ (I : Int → Prop), ∃ (μ : Int → Nat), I (0 : Int) ∧ ∀ (x : Int), I x → List.length (Prod.fst r_4) ≤ (9223372036854775807 : Nat) → cnd (decide (x < (↑(List.length (Prod.fst r_4)) : Int))) ((0 : Int) ≤ (0 : Int) ∧ (0 : Int) ≤ x ∧ x ≤ (↑(List.length (Prod.fst r_4)) : Int) ∧ (List.length ([] : List (Int × Int)) + List.length (List.drop (Int.toNat (0 : Int)) (List.take (Int.toNat x) (Prod.fst r_4)))) * (16 : Nat) ≤ (140737488355328 : Nat) ∧ (0 : Int) ≤ IntKind.wrap IntKind.i64 (x + (1 : Int)) ∧ IntKind.wrap IntKind.i64 (x + (1 : Int)) ≤ (↑(List.length (Prod.fst r_4)) : Int) ∧ (↑(List.length (Prod.fst r_4)) : Int) ≤ (↑(List.length (Prod.fst r_4)) : Int) ∧ (List.length (([] : List (Int × Int)) ++ List.drop (Int.toNat (0 : Int)) (List.take (Int.toNat x) (Prod.fst r_4))) + List.length (List.drop (Int.toNat (IntKind.wrap IntKind.i64 (x + (1 : Int)))) (List.take (Int.toNat (↑(List.length (Prod.fst r_4)) : Int)) (Prod.fst r_4)))) * (16 : Nat) ≤ (140737488355328 : Nat) ∧ ∃ (r_7 : Bool), (f50_wp ((Prod.fst r, Prod.fst (Prod.snd r), Prod.snd (Prod.snd r)), List.map (fun (x : List Int) ↦ x) x_2, ([] : List (Int × Int)) ++ List.drop (Int.toNat (0 : Int)) (List.take (Int.toNat x) (Prod.fst r_4)) ++ List.drop (Int.toNat (IntKind.wrap IntKind.i64 (x + (1 : Int)))) (List.take (Int.toNat (↑(List.length (Prod.fst r_4)) : Int)) (Prod.fst r_4)), ()) () fun (r' : Bool) ↦ r' = r_7) ∧ cnd r_7 (Q false) (I (IntKind.wrap IntKind.i64 (x + (1 : Int))) ∧ μ (IntKind.wrap IntKind.i64 (x + (1 : Int))) < μ x)) (f47_wp (Prod.fst r, Prod.fst (Prod.snd r), Prod.snd (Prod.snd r)) () fun (r_7 : List Int × List Int × List (Int × Int)) ↦ f48_wp (List.map (fun (x : List Int) ↦ x) x_2) () fun (r_8 : List (List Int)) ↦ f29_wp ((Prod.fst r_7, Prod.fst (Prod.snd r_7), Prod.snd (Prod.snd r_7)), r_8, ()) () fun (r_9 : List Int × Int × Unit) ↦ ∃ (I : Int → List (List Int) → Prop), ∃ (μ : Int → List (List Int) → Nat), I (0 : Int) ([] : List (List Int)) ∧ ∀ (x : Int) (x_3 : List (List Int)), I x x_3 → List.length (Prod.fst r_9) ≤ (9223372036854775807 : Nat) → cnd (decide (x < (↑(List.length (Prod.fst r_9)) : Int))) ((0 : Int) ≤ x ∧ x < (↑(List.length (Prod.fst r_9)) : Int) ∧ cnd (decide (List.getD (Prod.fst r_9) (Int.toNat x) (0 : Int) < (0 : Int))) (Q false) ((0 : Int) ≤ x ∧ x < (↑(List.length (Prod.fst r_9)) : Int) ∧ cnd (decide (List.getD (Prod.fst r_9) (Int.toNat x) (0 : Int) ≥ (↑(List.length (List.map (fun (x : List Int) ↦ x) x_2)) : Int))) (Q false) (cnd (decide (x > (0 : Int))) ((0 : Int) ≤ x ∧ x < (↑(List.length (Prod.fst r_9)) : Int) ∧ (0 : Int) ≤ IntKind.wrap IntKind.i64 (x - (1 : Int)) ∧ IntKind.wrap IntKind.i64 (x - (1 : Int)) < (↑(List.length (Prod.fst r_9)) : Int) ∧ cnd (decide (List.getD (Prod.fst r_9) (Int.toNat x) (0 : Int) ≤ List.getD (Prod.fst r_9) (Int.toNat (IntKind.wrap IntKind.i64 (x - (1 : Int)))) (0 : Int))) (Q false) ((0 : Int) ≤ x ∧ x < (↑(List.length (Prod.fst r_9)) : Int) ∧ (0 : Int) ≤ List.getD (Prod.fst r_9) (Int.toNat x) (0 : Int) ∧ List.getD (Prod.fst r_9) (Int.toNat x) (0 : Int) < (↑(List.length (List.map (fun (x : List Int) ↦ x) x_2)) : Int) ∧ (List.length x_3 + List.length (List.getD (List.map (fun (x : List Int) ↦ x) x_2) (Int.toNat (List.getD (Prod.fst r_9) (Int.toNat x) (0 : Int))) ([] : List Int) :: ([] : List (List Int)))) * (24 : Nat) ≤ (140737488355328 : Nat) ∧ I (IntKind.wrap IntKind.i64 (x + (1 : Int))) (x_3 ++ List.getD (List.map (fun (x : List Int) ↦ x) x_2) (Int.toNat (List.getD (Prod.fst r_9) (Int.toNat x) (0 : Int))) ([] : List Int) :: ([] : List (List Int))) ∧ μ (IntKind.wrap IntKind.i64 (x + (1 : Int))) (x_3 ++ List.getD (List.map (fun (x : List Int) ↦ x) x_2) (Int.toNat (List.getD (Prod.fst r_9) (Int.toNat x) (0 : Int))) ([] : List Int) :: ([] : List (List Int))) < μ x x_3)) ((0 : Int) ≤ x ∧ x < (↑(List.length (Prod.fst r_9)) : Int) ∧ (0 : Int) ≤ List.getD (Prod.fst r_9) (Int.toNat x) (0 : Int) ∧ List.getD (Prod.fst r_9) (Int.toNat x) (0 : Int) < (↑(List.length (List.map (fun (x : List Int) ↦ x) x_2)) : Int) ∧ (List.length x_3 + List.length (List.getD (List.map (fun (x : List Int) ↦ x) x_2) (Int.toNat (List.getD (Prod.fst r_9) (Int.toNat x) (0 : Int))) ([] : List Int) :: ([] : List (List Int)))) * (24 : Nat) ≤ (140737488355328 : Nat) ∧ I (IntKind.wrap IntKind.i64 (x + (1 : Int))) (x_3 ++ List.getD (List.map (fun (x : List Int) ↦ x) x_2) (Int.toNat (List.getD (Prod.fst r_9) (Int.toNat x) (0 : Int))) ([] : List Int) :: ([] : List (List Int))) ∧ μ (IntKind.wrap IntKind.i64 (x + (1 : Int))) (x_3 ++ List.getD (List.map (fun (x : List Int) ↦ x) x_2) (Int.toNat (List.getD (Prod.fst r_9) (Int.toNat x) (0 : Int))) ([] : List Int) :: ([] : List (List Int))) < μ x x_3)))) (∃ (I : Int → List (List Int) → Prop), ∃ (μ : Int → List (List Int) → Nat), I (0 : Int) ([] : List (List Int)) ∧ ∀ (x : Int) (x_4 : List (List Int)), I x x_4 → List.length (List.map (fun (x : List Int) ↦ x) x_2) ≤ (9223372036854775807 : Nat) → cnd (decide (x < (↑(List.length (List.map (fun (x : List Int) ↦ x) x_2)) : Int))) ((0 : Int) ≤ IntKind.wrap IntKind.u64 x ∧ cnd (IntKind.wrap IntKind.u8 (↑(BitVec.toNat (BitVec.ofInt (IntKind.bits IntKind.u8) (Int.fdiv some ((2 : Int) ^ min (Int.toNat (IntKind.wrap IntKind.u64 x)) (IntKind.bits IntKind.u8))) &&& BitVec.ofInt (IntKind.bits IntKind.u8) (1 : Int))) : Int) == (1 : Int)) ((0 : Int) ≤ x ∧ x < (↑(List.length (List.map (fun (x : List Int) ↦ x) x_2)) : Int) ∧ (List.length x_4 + List.length (List.getD (List.map (fun (x : List Int) ↦ x) x_2) (Int.toNat x) ([] : List Int) :: ([] : List (List Int)))) * (24 : Nat) ≤ (140737488355328 : Nat) ∧ I (IntKind.wrap IntKind.i64 (x + (1 : Int))) (x_4 ++ List.getD (List.map (fun (x : List Int) ↦ x) x_2) (Int.toNat x) ([] : List Int) :: ([] : List (List Int))) ∧ μ (IntKind.wrap IntKind.i64 (x + (1 : Int))) (x_4 ++ List.getD (List.map (fun (x : List Int) ↦ x) x_2) (Int.toNat x) ([] : List Int) :: ([] : List (List Int))) < μ x x_4) (I (IntKind.wrap IntKind.i64 (x + (1 : Int))) x_4 ∧ μ (IntKind.wrap IntKind.i64 (x + (1 : Int))) x_4 < μ x x_4)) (cnd (Prod.fst (Prod.snd r_9) == (0 : Int)) (f50_wp ((Prod.fst r, Prod.fst (Prod.snd r), Prod.snd (Prod.snd r)), x_3, ([] : List (Int × Int)), ()) () fun (r_10 : Bool) ↦ cnd r_10 (List.length x_4 ≤ (9223372036854775807 : Nat) → List.length x_3 ≤ (9223372036854775807 : Nat) → cnd (decide ((↑(List.length x_4) : Int) ≤ (↑(List.length x_3) : Int))) (f18_wp () () fun (r : Bool) ↦ Q r) (f50_wp ((Prod.fst r, Prod.fst (Prod.snd r), Prod.snd (Prod.snd r)), x_4, ([] : List (Int × Int)), ()) () fun (r : Bool) ↦ cnd (!r) (f18_wp () () fun (r : Bool) ↦ Q r) (Q false))) (Q false)) (Q false)))))))))
theorem v10 (x : (Int × Int × Int × Int) × (Int × Int) × List (Int × Int × Int × Int)) (wrong : List (Int × Int)) (some : Int) (Q : Bool → Prop) : V10 x wrong some Q = vcFunc (S0 [(45, f45_ct), (46, f46_ct), (47, f47_ct), (48, f48_ct), (34, f34_ct), (50, f50_ct), (51, f51_ct), (29, f29_ct), (18, f18_ct)] []) f10_ct.own f10_ct.fresh f10_an Tryd.f10 (bodyOf Tryd.f10) f10_ct.A f10_ct.C f10_ct.R (x, wrong, some, ()) () Q := by kernel_rfl

end Go.Proofs.Tw
set_option linter.unusedVariables false
set_option maxRecDepth 100000
namespace Go.Proofs.Tw
open Go Go.GX Go.Proofs
theorem ends_facts (l : Fans) (w : List Slip) (m : Nat) : ∀ k, (∀ i, i < k → slipB w m i = false → (ends l w m k).1 ≤ (l.getD i []).getD m 0 ∧ (l.getD i []).getD m 0 ≤ (ends l w m k).2) ∧
    ((ends l w m k).1 = 1048576 ∨ ∃ i, i < k ∧ slipB w m i = false ∧ (ends l w m k).1 = (l.getD i []).getD m 0) ∧
    ((ends l w m k).2 = -1048576 ∨ ∃ i, i < k ∧ slipB w m i = false ∧ (ends l w m k).2 = (l.getD i []).getD m 0)
  | 0 => ⟨fun i hi => absurd hi (Nat.not_lt_zero _), .inl rfl, .inl rfl⟩
  | k + 1 => by
    obtain ⟨h1, h2, h3⟩ := ends_facts l w m k
    simp only [ends]
    cases hs : slipB w m k with
    | true =>
      rw [if_pos rfl]
      refine ⟨fun i hi hsi => ?_, ?_, ?_⟩
      · rcases Nat.lt_succ_iff_lt_or_eq.1 hi with hi | rfl
        · exact h1 i hi hsi
        · rw [hs] at hsi; cases hsi
      · exact h2.imp id fun ⟨i, a, b⟩ => ⟨i, by omega, b⟩
      · exact h3.imp id fun ⟨i, a, b⟩ => ⟨i, by omega, b⟩
    | false =>
      rw [if_neg (by simp)]
      have a := mn_cases (ends l w m k).1 ((l.getD k []).getD m 0)
      have b := mx_cases (ends l w m k).2 ((l.getD k []).getD m 0)
      simp only
      refine ⟨fun i hi hsi => ?_, ?_, ?_⟩
      · rcases Nat.lt_succ_iff_lt_or_eq.1 hi with hi | rfl
        · have := h1 i hi hsi; omega
        · omega
      · rcases a.1 with e | e
        · rw [e]; exact h2.imp id fun ⟨i, a, b⟩ => ⟨i, by omega, b⟩
        · rw [e]; exact .inr ⟨k, by omega, hs, rfl⟩
      · rcases b.1 with e | e
        · rw [e]; exact h3.imp id fun ⟨i, a, b⟩ => ⟨i, by omega, b⟩
        · rw [e]; exact .inr ⟨k, by omega, hs, rfl⟩
theorem like_iff {g : Gauge} (hg : GgOK g) {l : Fans} (hl : FsOK l) {w : List Slip} : likeF g l w = true ↔ ∀ m, m < 2 → ∀ i k : Nat, i < l.length → k < l.length → slipB w m i = false → slipB w m k = false → (l.getD i []).getD m 0 - (l.getD k []).getD m 0 ≤ 2 * g.2.1.getD m 0 + 2 * g.1.getD m 0 := by
  obtain ⟨l1, l2, l3, o0, o1, k0, k1, c0, c1⟩ := hg.facts
  unfold likeF
  rw [List.all_eq_true]
  constructor
  · intro h m hm i k hi hk hsi hsk
    have := h m (List.mem_range.2 (by omega))
    simp only [Bool.not_eq_true', decide_eq_false_iff_not] at this
    obtain ⟨h1, _, _⟩ := ends_facts l w m l.length
    have a := h1 i hi hsi
    have b := h1 k hk hsk
    omega
  · intro h m hm
    have hm : m < 2 := by have := List.mem_range.1 hm; omega
    have ho := gg_off hg hm
    simp only [Bool.not_eq_true', decide_eq_false_iff_not]
    obtain ⟨h1, h2, h3⟩ := ends_facts l w m l.length
    rcases h2 with e | ⟨i, hi, hsi, e⟩
    · rcases h3 with e' | ⟨k, hk, hsk, e'⟩
      · omega
      · have := h1 k hk hsk
        have := hl.at hk hm
        omega
    · rcases h3 with e' | ⟨k, hk, hsk, e'⟩
      · have := h1 i hi hsi
        have := hl.at hi hm
        omega
      · have := h m hm k i hk hi hsk hsi
        omega
theorem slip_two {a b : List Int} {m : Nat} (hm : m < 2) (i : Nat) : slipB (a.map (fun f => ((0 : Int), f)) ++ b.map fun f => ((1 : Int), f)) m i = hasF (if m = 0 then a else b) i := by
  unfold slipB hasF
  rw [List.any_append, List.any_map, List.any_map]
  rcases (by omega : m = 0 ∨ m = 1) with rfl | rfl
  · rw [if_pos rfl]
    have e1 : (b.any ((fun s : Slip => s.1 == ((0 : Nat) : Int) && s.2 == (i : Int)) ∘ fun f => ((1 : Int), f))) = false := by
      rw [List.any_eq_false]; intro x _; simp
    rw [e1, Bool.or_false]
    rw [Bool.eq_iff_iff, List.any_eq_true, List.any_eq_true]
    constructor <;> rintro ⟨x, hx, e⟩ <;> refine ⟨x, hx, ?_⟩ <;> simp at e ⊢ <;> omega
  · rw [if_neg (by omega)]
    have e1 : (a.any ((fun s : Slip => s.1 == ((1 : Nat) : Int) && s.2 == (i : Int)) ∘ fun f => ((0 : Int), f))) = false := by
      rw [List.any_eq_false]; intro x _; simp
    rw [e1, Bool.false_or]
    rw [Bool.eq_iff_iff, List.any_eq_true, List.any_eq_true]
    constructor <;> rintro ⟨x, hx, e⟩ <;> refine ⟨x, hx, ?_⟩ <;> simp at e ⊢ <;> omega
theorem slips_two {n : Nat} (h : n ≤ 5) {a b : List Int} (ha : a ∈ setsF n) (hb : b ∈ setsF n) : slipsB (a.map (fun f => ((0 : Int), f)) ++ b.map fun f => ((1 : Int), f)) n = true := by
  have e : ((setsF n).all fun a => (setsF n).all fun b => slipsB (a.map (fun f => ((0 : Int), f)) ++ b.map fun f => ((1 : Int), f)) n) = true := by
    rcases le5 h with rfl | rfl | rfl | rfl | rfl | rfl <;> decide +kernel
  exact List.all_eq_true.1 (List.all_eq_true.1 e a ha) b hb
theorem wrong_two {g : Gauge} {fs : Fans} (hg : g.1.length = 2) : wrongF g fs = (leastS fs.length (wrongP g fs) 0).map (fun f => ((0 : Int), f)) ++ (leastS fs.length (wrongP g fs) 1).map fun f => ((1 : Int), f) := by
  unfold wrongF
  rw [hg]
  exact blame_two _ _
theorem fs_vb {g : Gauge} {l : Fans} (v : VB g l) (hg : g.1.length = 2) : FsOK l := ⟨v.f5, fun f hf => by rw [v.fl f hf, hg], fun f hf x hx => by have := v.fv f hf x hx; omega⟩

theorem wrongP_iff {g : Gauge} {fs : Fans} (v : VB g fs) {m : Nat} (hm : m < g.1.length) (s : List Int) : wrongP g fs m s = true ↔ ∀ i k : Nat, i < fs.length → k < fs.length → hasF s i = false → hasF s k = false → (fs.getD i []).getD m 0 - (fs.getD k []).getD m 0 ≤ 2 * g.2.1.getD m 0 + 2 * g.1.getD m 0 := by
  unfold wrongP
  rw [pair_iff v hm]
  simp only [Bool.not_eq_true']
theorem wrong_full {g : Gauge} {fs : Fans} (v : VB g fs) {m : Nat} (hm : m < g.1.length) : wrongP g fs m (numsF (fun _ => true) fs.length) = true := by
  rw [wrongP_iff v hm]
  intro i k hi hk h1 h2
  rw [numsF_has hi] at h1
  cases h1
theorem er_map {α β : Type} (f : α → β) (l : List α) (k : Nat) : (l.map f).eraseIdx k = (l.eraseIdx k).map f := by simp [List.eraseIdx_eq_take_drop_succ, List.map_take, List.map_drop]

theorem wrong_like {g : Gauge} (hg : GgOK g) {fs : Fans} (v : VB g fs) : likeF g fs (wrongF g fs) = true ∧ slipsB (wrongF g fs) fs.length = true ∧ ∀ k, k < (wrongF g fs).length → likeF g fs ((wrongF g fs).eraseIdx k) = false := by
  obtain ⟨l1, l2, l3, o0, o1, k0, k1, c0, c1⟩ := hg.facts
  have fl := fs_vb v l1
  have lm := fun m => least_mem fs.length (wrongP g fs) m
  have lo := fun m (hm : m < 2) => least_ok v.f5 (p := wrongP g fs) (m := m) (sets_all v.f5).1 (wrong_full v (by omega))
  rw [wrong_two l1]
  refine ⟨?_, slips_two v.f5 (lm 0) (lm 1), fun k hk => ?_⟩
  · rw [like_iff hg fl]
    intro m hm i k hi hk hsi hsk
    rw [slip_two hm] at hsi hsk
    have := (wrongP_iff v (show m < g.1.length by omega) _).1 (lo m hm).1
    rcases (by omega : m = 0 ∨ m = 1) with rfl | rfl
    · exact this i k hi hk hsi hsk
    · exact this i k hi hk hsi hsk
  · rw [Bool.eq_false_iff]
    intro hlk
    rw [like_iff hg fl] at hlk
    have key : ∀ m, m < 2 → ∀ j, j < (leastS fs.length (wrongP g fs) m).length → (∀ i k : Nat, i < fs.length → k < fs.length → hasF ((leastS fs.length (wrongP g fs) m).eraseIdx j) i = false → hasF ((leastS fs.length (wrongP g fs) m).eraseIdx j) k = false → (fs.getD i []).getD m 0 - (fs.getD k []).getD m 0 ≤ 2 * g.2.1.getD m 0 + 2 * g.1.getD m 0) → False := by
      intro m hm j hj hall
      have h1 := (wrongP_iff v (show m < g.1.length by omega) _).2 hall
      have h2 := (lo m hm).2 _ (sets_drop v.f5 (lm m) hj) h1
      rw [List.length_eraseIdx, if_pos hj] at h2
      omega
    rw [List.length_append, List.length_map, List.length_map] at hk
    by_cases hk0 : k < (leastS fs.length (wrongP g fs) 0).length
    · refine key 0 (by omega) k hk0 fun i j hi hj h1 h2 => hlk 0 (by omega) i j hi hj ?_ ?_
      all_goals
        rw [List.eraseIdx_append_of_lt_length (by simpa using hk0), er_map, slip_two (by omega), if_pos rfl]
        assumption
    · refine key 1 (by omega) (k - (leastS fs.length (wrongP g fs) 0).length) (by omega) fun i j hi hj h1 h2 => hlk 1 (by omega) i j hi hj ?_ ?_
      all_goals
        rw [List.eraseIdx_append_of_length_le (by simpa using Nat.le_of_not_lt hk0), List.length_map, er_map, slip_two (by omega), if_neg (by omega)]
        assumption
end Go.Proofs.Tw
set_option linter.unusedVariables false
set_option maxRecDepth 100000
namespace Go.Proofs.Tw
open Go Go.GX Go.Proofs
def cj (n : Nat) (y : Int × Int) : Nat := (y.1 % (n : Int)).toNat
def cm (y : Int × Int) : Nat := (y.1 / 8 % 2).toNat
def chg (l : Fans) (y : Int × Int) : Fans := l.set (cj l.length y) ((l.getD (cj l.length y) []).set (cm y) (2 * y.2))
def chgN (l : Fans) (ws : List (Int × Int)) : Nat → Fans
  | 0 => l
  | k + 1 => chg (chgN l ws k) (ws.getD k (0, 0))
def touch (ws : List (Int × Int)) (n k m i : Nat) : Bool := (List.range k).any fun r => decide (cm (ws.getD r (0, 0)) = m) && decide (cj n (ws.getD r (0, 0)) = i)
theorem setD_get {α : Type} (l : List α) (i : Nat) (v : α) (j : Nat) (d : α) (hi : i < l.length) : (l.set i v).getD j d = if i = j then v else l.getD j d := by
  rw [List.getD_eq_getElem?_getD, List.getD_eq_getElem?_getD, List.getElem?_set]
  by_cases h : i = j
  · rw [if_pos h, if_pos h, if_pos hi]; rfl
  · rw [if_neg h, if_neg h]
theorem chg_len (l : Fans) (y : Int × Int) : (chg l y).length = l.length := by unfold chg; rw [List.length_set]
theorem chgN_len (l : Fans) (ws : List (Int × Int)) : ∀ k, (chgN l ws k).length = l.length
  | 0 => rfl
  | k + 1 => by show (chg _ _).length = _; rw [chg_len, chgN_len l ws k]
theorem cm_lt (y : Int × Int) : cm y < 2 := by unfold cm; omega
theorem cj_lt {n : Nat} (hn : 0 < n) (y : Int × Int) : cj n y < n := by
  unfold cj
  have a := Int.emod_nonneg y.1 (show (n : Int) ≠ 0 by omega)
  have b := Int.emod_lt_of_pos y.1 (show (0 : Int) < n by omega)
  omega

theorem set_get {l : Fans} {j m : Nat} {z : Int} (hj : j < l.length) (hl : ∀ f, f ∈ l → f.length = 2) (hm : m < 2) (i k : Nat) :
    ((l.set j ((l.getD j []).set m z)).getD i []).getD k 0 = if j = i ∧ m = k then z else (l.getD i []).getD k 0 := by
  have h2 := hl _ (getD_mem (d := ([] : List Int)) hj)
  rw [setD_get _ _ _ _ _ hj]
  by_cases h : j = i
  · subst h
    rw [if_pos rfl, setD_get _ _ _ _ _ (by omega)]
    by_cases h' : m = k
    · rw [if_pos h', if_pos ⟨rfl, h'⟩]
    · rw [if_neg h', if_neg (fun e => h' e.2)]
  · rw [if_neg h, if_neg (fun e => h e.1)]
theorem set_two {l : Fans} {j m : Nat} {z : Int} (hl : ∀ f, f ∈ l → f.length = 2) (hj : j < l.length) : ∀ f, f ∈ l.set j ((l.getD j []).set m z) → f.length = 2 := by
  intro f hf
  rcases List.mem_or_eq_of_mem_set hf with hf | rfl
  · exact hl f hf
  · rw [List.length_set]; exact hl _ (getD_mem hj)
theorem set_val {l : Fans} {j m : Nat} {z lo hi : Int} (hv : ∀ f, f ∈ l → ∀ y, y ∈ f → lo ≤ y ∧ y ≤ hi) (hj : j < l.length) (hz : lo ≤ z ∧ z ≤ hi) : ∀ f, f ∈ l.set j ((l.getD j []).set m z) → ∀ y, y ∈ f → lo ≤ y ∧ y ≤ hi := by
  intro f hf y hy
  rcases List.mem_or_eq_of_mem_set hf with hf | rfl
  · exact hv f hf y hy
  · rcases List.mem_or_eq_of_mem_set hy with hy | rfl
    · exact hv _ (getD_mem hj) y hy
    · exact hz
theorem set_vb {g : Gauge} (hg : GgOK g) {l : Fans} (v : VB g l) {j m : Nat} {z : Int} (hj : j < l.length) (hz : 0 ≤ z ∧ z ≤ 10000) : VB g (l.set j ((l.getD j []).set m z)) := by
  have l1 := hg.facts.1
  have h2 : ∀ f, f ∈ l → f.length = 2 := fun f hf => by rw [v.fl f hf, l1]
  exact vb_of hg (by rw [List.length_set]; exact v.f5) (set_two h2 hj) (set_val v.fv hj hz)
theorem chgN_vb {g : Gauge} (hg : GgOK g) {l : Fans} (v : VB g l) (h0 : 0 < l.length) {ws : List (Int × Int)} (hb : ∀ y, y ∈ ws → byteB y.1 ∧ byteB y.2) : ∀ k, k ≤ ws.length → VB g (chgN l ws k)
  | 0, _ => v
  | k + 1, hk => by
    have ih := chgN_vb hg v h0 hb k (by omega)
    have hy := (hb _ (getD_mem (d := ((0 : Int), (0 : Int))) (show k < ws.length by omega))).2
    unfold byteB at hy
    refine set_vb hg ih ?_ ⟨by omega, by omega⟩
    exact cj_lt (by rw [chgN_len]; exact h0) _
theorem chgN_get {g : Gauge} (hg : GgOK g) {l : Fans} (v : VB g l) (h0 : 0 < l.length) {ws : List (Int × Int)} (hb : ∀ y, y ∈ ws → byteB y.1 ∧ byteB y.2) {m i : Nat} : ∀ k, k ≤ ws.length → touch ws l.length k m i = false → ((chgN l ws k).getD i []).getD m 0 = (l.getD i []).getD m 0
  | 0, _, _ => rfl
  | k + 1, hk, ht => by
    have vk := chgN_vb hg v h0 hb k (by omega)
    have hlen := chgN_len l ws k
    have l1 := hg.facts.1
    unfold touch at ht
    rw [List.range_succ, List.any_append, Bool.or_eq_false_iff] at ht
    have ih := chgN_get hg v h0 hb (m := m) (i := i) k (by omega) ht.1
    have h2 : ∀ f, f ∈ chgN l ws k → f.length = 2 := fun f hf => by rw [vk.fl f hf, l1]
    show ((chg (chgN l ws k) (ws.getD k (0, 0))).getD i []).getD m 0 = _
    unfold chg
    rw [hlen, set_get (by rw [hlen]; exact cj_lt h0 _) h2 (cm_lt _), if_neg, ih]
    rintro ⟨e1, e2⟩
    have := ht.2
    rw [List.any_cons, List.any_nil, Bool.or_false, decide_eq_true e1, decide_eq_true e2] at this
    cases this
theorem cnt_bump (p : Nat → Bool) (j : Nat) : ∀ N, (List.range N).countP (fun i => p i || decide (j = i)) ≤ (List.range N).countP p + if j < N then 1 else 0
  | 0 => by simp
  | N + 1 => by
    have ih := cnt_bump p j N
    rw [List.range_succ, List.countP_append, List.countP_append, List.countP_singleton, List.countP_singleton]
    by_cases h : j = N
    · subst h
      rw [if_neg (Nat.lt_irrefl _)] at ih
      rw [if_pos (Nat.lt_succ_self _)]
      split <;> omega
    · rw [decide_eq_false h, Bool.or_false]
      have : (if j < N + 1 then 1 else 0) = if j < N then 1 else 0 := by
        by_cases h' : j < N
        · rw [if_pos h', if_pos (by omega)]
        · rw [if_neg h', if_neg (by omega)]
      rw [this]
      omega
theorem numsF_cnt (p : Nat → Bool) (k : Nat) : (numsF p k).length = (List.range k).countP p := by
  unfold numsF
  rw [List.length_map, List.countP_eq_length_filter]
theorem touch_cnt (ws : List (Int × Int)) (n : Nat) : ∀ k, (numsF (touch ws n k 0) n).length + (numsF (touch ws n k 1) n).length ≤ k
  | 0 => by
    rw [numsF_cnt, numsF_cnt]
    have : ∀ m, (List.range n).countP (touch ws n 0 m) = 0 := fun m => List.countP_eq_zero.2 fun i _ => by simp [touch]
    rw [this, this]
    omega
  | k + 1 => by
    have ih := touch_cnt ws n k
    rw [numsF_cnt, numsF_cnt] at ih ⊢
    have hs : ∀ m i, touch ws n (k + 1) m i = (touch ws n k m i || (decide (cm (ws.getD k (0, 0)) = m) && decide (cj n (ws.getD k (0, 0)) = i))) := by
      intro m i
      unfold touch
      rw [List.range_succ, List.any_append, List.any_cons, List.any_nil, Bool.or_false]
    have hf : ∀ m, touch ws n (k + 1) m = fun i => touch ws n k m i || (decide (cm (ws.getD k (0, 0)) = m) && decide (cj n (ws.getD k (0, 0)) = i)) := fun m => funext (hs m)
    have hb := fun m => cnt_bump (touch ws n k m) (cj n (ws.getD k (0, 0))) n
    have b0 := hb 0
    have b1 := hb 1
    have hc := cm_lt (ws.getD k (0, 0))
    have h01 : (if cj n (ws.getD k (0, 0)) < n then 1 else 0) ≤ 1 := by split <;> omega
    rcases (by omega : cm (ws.getD k (0, 0)) = 0 ∨ cm (ws.getD k (0, 0)) = 1) with e | e
    · have e0 : touch ws n (k + 1) 0 = fun i => touch ws n k 0 i || decide (cj n (ws.getD k (0, 0)) = i) := by rw [hf, e]; rfl
      have e1 : touch ws n (k + 1) 1 = touch ws n k 1 := by rw [hf, e]; exact funext fun i => Bool.or_false _
      rw [e0, e1]
      omega
    · have e0 : touch ws n (k + 1) 0 = touch ws n k 0 := by rw [hf, e]; exact funext fun i => Bool.or_false _
      have e1 : touch ws n (k + 1) 1 = fun i => touch ws n k 1 i || decide (cj n (ws.getD k (0, 0)) = i) := by rw [hf, e]; rfl
      rw [e0, e1]
      omega

theorem wrong_few {g : Gauge} (hg : GgOK g) {l : Fans} (v : VB g l) {p : Int × Int} (fits : ∀ m, m < 2 → Fits g l m (fun _ => true) l.length (at2 p m)) {ws : List (Int × Int)} (hb : ∀ y, y ∈ ws → byteB y.1 ∧ byteB y.2) {k : Nat} (hk : k ≤ ws.length) (h0 : 0 < l.length) : (wrongF g (chgN l ws k)).length ≤ k := by
  have l1 := hg.facts.1
  have vk := chgN_vb hg v h0 hb k hk
  have hlen := chgN_len l ws k
  rw [wrong_two l1, List.length_append, List.length_map, List.length_map, hlen]
  have key : ∀ m, m < 2 → (leastS l.length (wrongP g (chgN l ws k)) m).length ≤ (numsF (touch ws l.length k m) l.length).length := by
    intro m hm
    have hset := nums_set v.f5 (touch ws l.length k m)
    refine (least_ok v.f5 hset ?_).2 _ hset ?_
    all_goals
      rw [wrongP_iff vk (by omega), hlen]
      intro i j hi hj h1 h2
      rw [numsF_has hi] at h1
      rw [numsF_has hj] at h2
      rw [chgN_get hg v h0 hb k hk h1, chgN_get hg v h0 hb k hk h2]
      have a := fits m hm i hi rfl
      have b := fits m hm j hj rfl
      omega
  have a := key 0 (by omega)
  have b := key 1 (by omega)
  have c := touch_cnt ws l.length k
  omega

theorem part_like {g : Gauge} (hg : GgOK g) {l : Fans} (v : VB g l) {s : List Int} (hs : s ∈ setsF l.length) : FsOK (s.map fun j => l.getD j.toNat []) ∧ (likeF g (s.map fun j => l.getD j.toNat []) [] = true ↔ twinsF g l (hasF s) = true) := by
  have l1 := hg.facts.1
  have hr := fun y (hy : y ∈ s) => sets_rng v.f5 hs hy
  have hsl := (sets_all v.f5).2.2.1 s hs
  have fl := fs_vb v l1
  have fo : FsOK (s.map fun j => l.getD j.toNat []) := by
    refine ⟨by rw [List.length_map]; have := v.f5; omega, fun f hf => ?_, fun f hf => ?_⟩
    all_goals
      obtain ⟨j, hj, rfl⟩ := List.mem_map.1 hf
      have := hr j hj
      have hm := getD_mem (d := ([] : List Int)) (show j.toNat < l.length by omega)
    · exact fl.len _ hm
    · exact fl.val _ hm
  refine ⟨fo, ?_⟩
  rw [like_iff hg fo, twins_iff]
  have hget : ∀ i, i < s.length → (s.map fun j => l.getD j.toNat []).getD i [] = l.getD (s.getD i 0).toNat [] := fun i hi => map_getD' _ _ _ _ _ hi
  constructor
  · intro h m hm
    rw [← okSp_iff, pair_iff v hm]
    intro i k hi hk h1 h2
    obtain ⟨a, ha, ea⟩ := List.mem_iff_getElem.1 (hasF_iff.1 h1)
    obtain ⟨b, hb, eb⟩ := List.mem_iff_getElem.1 (hasF_iff.1 h2)
    have := h m (by omega) a b (by rw [List.length_map]; exact ha) (by rw [List.length_map]; exact hb) rfl rfl
    have ea' : s.getD a 0 = i := by rw [List.getD_eq_getElem?_getD, List.getElem?_eq_getElem ha]; exact ea
    have eb' : s.getD b 0 = k := by rw [List.getD_eq_getElem?_getD, List.getElem?_eq_getElem hb]; exact eb
    rw [hget a ha, hget b hb, ea', eb'] at this
    exact this
  · intro h m hm i k hi hk _ _
    rw [List.length_map] at hi hk
    have h1 := okSp_iff.2 (h m (by omega))
    rw [pair_iff v (by omega)] at h1
    rw [hget i hi, hget k hk]
    have mi := getD_mem (d := (0 : Int)) hi
    have mk := getD_mem (d := (0 : Int)) hk
    have ri := hr _ mi
    have rk := hr _ mk
    exact h1 _ _ (by omega) (by omega) (hasF_iff.2 (by rw [Int.toNat_of_nonneg ri.1]; exact mi)) (hasF_iff.2 (by rw [Int.toNat_of_nonneg rk.1]; exact mk))
end Go.Proofs.Tw
set_option linter.unusedVariables false
set_option maxRecDepth 100000
namespace Go.Proofs.Tw
open Go Go.GX Go.Proofs
theorem forLit {σ : Type} {n : Nat} {N : Int} (hN : N = (n : Int)) (hn : n ≤ 1000) (F : Nat → σ) {s0 : σ} (h0 : s0 = F 0) {body : (Int → σ → Prop) → (Int → σ → Nat) → Int → σ → Prop}
    (hb : ∀ k : Nat, k < n → ∀ (I : Int → σ → Prop) (μ : Int → σ → Nat), (I (k + 1 : Int) (F (k + 1)) ∧ μ (k + 1 : Int) (F (k + 1)) < μ k (F k)) → IntKind.wrap .i64 ((k : Int) + 1) = k + 1 → body I μ k (F k))
    {e : Int → σ → Prop} (he : e n (F n)) :
    ∃ (I : Int → σ → Prop) (μ : Int → σ → Nat), I 0 s0 ∧ ∀ x s, I x s → cnd (decide (x < N)) (body I μ x s) (e x s) := by
  subst hN
  exact forUp (by omega) F h0 hb he
theorem forLitG {n : Nat} {N : Int} (hN : N = (n : Int)) (hn : n ≤ 1000) {body : (Int → Prop) → (Int → Nat) → Int → Prop}
    (hb : ∀ k : Nat, k < n → ∀ (I : Int → Prop) (μ : Int → Nat), (I (k + 1 : Int) ∧ μ (k + 1 : Int) < μ k) → IntKind.wrap .i64 ((k : Int) + 1) = k + 1 → body I μ k)
    {e : Int → Prop} (he : e n) :
    ∃ (I : Int → Prop) (μ : Int → Nat), I 0 ∧ ∀ x, I x → cnd (decide (x < N)) (body I μ x) (e x) := by
  subst hN
  exact forUpG (by omega) (fun _ => True) trivial (fun k hk _ I μ hI hw => hb k hk I μ (hI trivial) hw) (fun _ => he)

structure MadeOK (g : Gauge) (l : Fans) (t : List (Int × Int)) (p : Int × Int) : Prop where
  gg : GgOK g
  vb : VB g l
  tw : twinsF g l (fun _ => true) = true
  tl : t.length = l.length
  fits : ∀ m, m < 2 → Fits g l m (fun _ => true) l.length (at2 p m)
  pr : ∀ m, 200 ≤ at2 p m ∧ at2 p m ≤ 555
  near : ∀ i, i < l.length → ∀ m, m < 2 → at2 (t.getD i (0, 0)) m - g.1.getD m 0 ≤ (l.getD i []).getD m 0 ∧ (l.getD i []).getD m 0 ≤ at2 (t.getD i (0, 0)) m + g.1.getD m 0
theorem made_ok {x : Gauged} (hx : GdOK x) : MadeOK (gaugeG x.1) (madeF x (gaugeG x.1)) (madeT x (gaugeG x.1)) (patT x) := by
  have hg := gauge_gg hx.g
  have l1 := hg.facts.1
  refine ⟨hg, made_vb hx hg, ?_, ?_, fun m hm => made_fits hx hg hm, fun m => pat_rng hx m, fun i hi m hm => (made_near hx hg hi hm).1⟩
  · rw [twins_iff]
    intro m hm
    have hp := pat_rng hx m
    have := (pat_fits _ _ m _ _).2 ⟨by omega, by omega, made_fits hx hg (show m < 2 by omega)⟩
    omega
  · have := made_len x (gaugeG x.1); omega
theorem cnd_f' {b : Bool} {p q : Prop} (hb : b = false) (h : q) : cnd b p q := by rw [hb]; exact h
theorem cnd_t' {b : Bool} {p q : Prop} (hb : b = true) (h : p) : cnd b p q := by rw [hb]; exact h
end Go.Proofs.Tw
set_option linter.unusedVariables false
set_option maxRecDepth 100000
set_option maxHeartbeats 1000000
namespace Go.Proofs.Tw
open Go Go.GX Go.Proofs
theorem ex3 {a b c : Bool} {L A E : Prop} (hL : L) (hA : a = true → b = true → c = true → A) (hE : ¬ (a = true ∧ b = true ∧ c = true) → E) : cnd a (cnd b (L → cnd c A E) E) E := by
  cases a with
  | false => exact hE (by simp)
  | true => cases b with
    | false => exact hE (by simp)
    | true => cases c with
      | false => exact fun _ => hE (by simp)
      | true => exact fun _ => hA rfl rfl rfl
theorem sl_path {e mn : Int} {n : Nat} {lk : Bool} {L Pre F T : Prop} (hpre : Pre) (h : (e = 6 ∧ n = 0 ∧ lk = true) ∨ (e = 0 ∧ n ≠ 0 ∧ (n : Int) ≤ mn)) (hT : T) :
    cnd (e == 6) (L → cnd (decide ((n : Int) > 0)) F (Pre ∧ cnd (!lk) F (cnd (e != 6) (cnd (e != 0) F (L → cnd ((n : Int) == 0) F (L → cnd (decide ((n : Int) > mn)) F T))) T))) (cnd (e != 6) (cnd (e != 0) F (L → cnd ((n : Int) == 0) F (L → cnd (decide ((n : Int) > mn)) F T))) T) := by
  rcases h with ⟨rfl, rfl, rfl⟩ | ⟨rfl, h1, h2⟩
  · exact fun _ => ⟨hpre, hT⟩
  · refine cnd_f' rfl (cnd_t' rfl (cnd_f' rfl fun _ => cnd_f' (by simpa using h1) fun _ => cnd_f' (decide_eq_false (by omega)) hT))
def bitE (b x : Int) : Bool := (IntKind.wrap IntKind.u8 (↑(BitVec.toNat (BitVec.ofInt (IntKind.bits IntKind.u8) (Int.fdiv b ((2 : Int) ^ min (Int.toNat (IntKind.wrap IntKind.u64 x)) (IntKind.bits IntKind.u8))) &&& BitVec.ofInt (IntKind.bits IntKind.u8) (1 : Int))) : Int)) == (1 : Int)
theorem numsF_succ' (p : Nat → Bool) (k : Nat) : numsF p (k + 1) = numsF p k ++ if p k then [(k : Int)] else [] := by
  unfold numsF
  rw [List.range_succ, List.filter_append, List.map_append]
  cases h : p k <;> simp [h]
theorem p10 {x : Gauged} {ws : List (Int × Int)} {some : Int} {Q : Bool → Prop} (h : f10_wp (x, ws, some, ()) () Q) : V10 x ws some Q := by
  obtain ⟨⟨hx, hb, hso⟩, h⟩ := h
  simp only at hx hb hso
  have mk := made_ok hx
  unfold V10
  simp only [f45_wp, f46_wp, f47_wp, f48_wp, f34_wp, f50_wp, f51_wp, f29_wp, f18_wp, List.map_id_fun', id, Prod.eta]
  refine ⟨hx.g, ⟨hx, mk.gg⟩, ?_⟩
  generalize madeF x (gaugeG x.1) = l at *
  generalize madeT x (gaugeG x.1) = t at *
  generalize patT x = p at *
  generalize gaugeG x.1 = g at *
  obtain ⟨hg, v, tw, tl, fits, pr, near⟩ := mk
  obtain ⟨l1, l2, l3, o0, o1, k0, k1, c0, c1⟩ := hg.facts
  have f5 := v.f5
  have lg : g.1.length ≤ 1000000 ∧ g.2.1.length ≤ 1000000 ∧ g.2.2.length ≤ 1000000 := by omega
  refine ⟨fun x y l' => ∃ k : Nat, x = k ∧ y = k ∧ l' = chgN l ws k ∧ k ≤ ws.length ∧ k ≤ 3 ∧ (k = 0 ∨ 0 < l.length), fun x _ _ => (3 - x).toNat, ⟨0, rfl, rfl, rfl, by omega, by omega, .inl rfl⟩, ?_⟩
  rintro _ _ _ ⟨k, rfl, rfl, rfl, hk1, hk3, hk0⟩ hL
  have hlen := chgN_len l ws k
  refine ex3 (by rw [hlen]; omega) (fun e1 e2 e3 => ?_) (fun _ => ?_)
  · have e1 : (k : Int) < ws.length := of_decide_eq_true e1
    have e2 : (k : Int) < 3 := of_decide_eq_true e2
    have e3 : (List.length (chgN l ws k) : Int) > 0 := of_decide_eq_true e3
    have h0 : 0 < l.length := by omega
    have vk := chgN_vb hg v h0 hb k hk1
    obtain ⟨b1, b2⟩ := hb _ (getD_mem (d := ((0 : Int), (0 : Int))) (show k < ws.length by omega))
    have w1 := by_wrap b1
    have w2 := by_wrap b2
    have hw : IntKind.wrap .i64 ((k : Int) + 1) = k + 1 := wrapS (by omega) (by omega)
    have hE : chgN l ws (k + 1) = chg (chgN l ws k) (ws.getD k (0, 0)) := rfl
    unfold chg cj cm at hE
    simp only [Int.toNat_natCast]
    generalize ws.getD k (0, 0) = y at *
    generalize chgN l ws k = l' at *
    have b1' := b1
    have b2' := b2
    unfold byteB at b1' b2'
    have t1 : Int.tmod y.1 (l'.length : Int) = y.1 % (l'.length : Int) := tmod_nn b1'.1 _
    have t2 : Int.tdiv y.1 8 = y.1 / 8 := tdiv_nn b1'.1 _
    have t3 : IntKind.wrap .i64 (y.1 / 8) = y.1 / 8 := wrapS (by omega) (by omega)
    have t4 : Int.tmod (y.1 / 8) 2 = y.1 / 8 % 2 := tmod_nn (by omega) _
    have t5 : IntKind.wrap .i64 (2 * y.2) = 2 * y.2 := wrapS (by omega) (by omega)
    have m1 := Int.emod_nonneg y.1 (show (l'.length : Int) ≠ 0 by omega)
    have m2 := Int.emod_lt_of_pos y.1 (show (0 : Int) < l'.length by omega)
    have hfl := vk.fan (show (y.1 % (l'.length : Int)).toNat < l'.length by omega)
    simp only [w1, w2, t1, t2, t3, t4, t5, hw]
    refine ⟨by omega, by omega, by omega, m1, m2, by omega, by omega, by omega, by omega, by omega, by omega, by omega, by omega, ⟨k + 1, by omega, by omega, hE.symm, by omega, by omega, .inr h0⟩, by omega⟩
  have key : VB g (chgN l ws k) ∧ (wrongF g (chgN l ws k)).length ≤ k := by
    by_cases h0 : 0 < l.length
    · exact ⟨chgN_vb hg v h0 hb k hk1, wrong_few hg v fits hb hk1 h0⟩
    · have : k = 0 := by omega
      subst this
      exact ⟨v, by show (wrongF g l).length ≤ 0; rw [wrong_nil tw]; exact Nat.le_refl _⟩
  obtain ⟨vk, few⟩ := key
  generalize chgN l ws k = l' at *
  have f5' := vk.f5
  have ll : l'.length ≤ 1000000 ∧ ∀ f, f ∈ l' → f.length ≤ 1000000 := ⟨by omega, fun f hf => by have := vk.fl f hf; omega⟩
  have hck := check0 vk
  have ew : wrongFn g l' = (wrongF g l', if (wrongF g l').length = 0 then 6 else 0) := by
    unfold wrongFn
    rw [if_neg (by simp [hck])]
    split
    · rename_i h0
      rw [List.length_eq_zero_iff.1 h0]
    · rfl
  have em : mostFn g l' = (mostF g l', 0) := by unfold mostFn; rw [if_neg (by simp [hck])]
  obtain ⟨wl, ws1, wmin⟩ := wrong_like hg vk
  have fo := fs_vb vk l1
  have pre : ∀ u : List Slip, u.length ≤ 1000 → GgOK g ∧ FsOK l' ∧ u.length ≤ 1000 := fun u hu => ⟨hg, fo, hu⟩
  refine ⟨lg, ll, ?_⟩
  simp only [ew, em]
  generalize wrongF g l' = w at *
  refine sl_path (pre [] (by simp)) ?_ (fun _ => cnd_f' (by rw [ws1]; rfl) ⟨pre w (by omega), cnd_f' (by rw [wl]; rfl) ?_⟩)
  · by_cases h0 : w.length = 0
    · left
      rw [List.length_eq_zero_iff.1 h0] at wl
      exact ⟨by rw [if_pos h0], h0, wl⟩
    · right
      exact ⟨by rw [if_neg h0], h0, by omega⟩
  refine forUpGL (n := w.length) (fun _ => True) trivial (fun i hi _ _ I μ hI hw => ?_) (fun _ => ?_)
  · have ee : [] ++ List.drop (Int.toNat 0) (List.take i w) ++ List.drop (i + 1) (List.take w.length w) = w.eraseIdx i := by
      rw [List.take_length, List.nil_append, List.eraseIdx_eq_take_drop_succ]; rfl
    have hi1 : Int.toNat ((i : Int) + 1) = i + 1 := by omega
    simp only [Int.toNat_natCast, hw, hi1, ee]
    have l0 : Int.toNat (0 : Int) = 0 := rfl
    refine ⟨by omega, by omega, by omega, ?_, by omega, by omega, by omega, ?_, false, ⟨pre _ (by rw [List.length_eraseIdx]; split <;> omega), wmin i hi⟩, hI trivial⟩
    · simp only [l0, List.drop_zero, List.length_take, List.length_nil]; omega
    · simp only [l0, List.drop_zero, List.length_take, List.length_drop, List.length_append, List.length_nil]; omega
  obtain ⟨mm, mt, mx⟩ := most_mem vk
  have masc := sets_asc f5' _ mm
  have mr := fun y (hy : y ∈ mostF g l') => sets_rng f5' mm hy
  have msl := (sets_all f5').2.2.1 _ mm
  obtain ⟨po, pl⟩ := part_like hg vk mm
  have pli : likeF g ((mostF g l').map fun j => l'.getD j.toNat []) [] = true := by
    by_cases hne : mostF g l' = []
    · rw [hne]
      rw [like_iff hg (by rw [hne] at po; exact po)]
      intro m hm i k hi
      exact absurd hi (Nat.not_lt_zero _)
    · exact pl.2 (mt hne)
  refine ⟨lg, ll, ?_⟩
  generalize mostF g l' = s at *
  refine forUpL (n := s.length) (fun k => (s.take k).map fun j => l'.getD j.toNat []) rfl (fun i hi I μ hI hw => ?_) ?_
  · have ha := List.all_eq_true.1 masc i (List.mem_range.2 hi)
    simp only [Bool.and_eq_true, Bool.or_eq_true, decide_eq_true_eq] at ha
    rw [List.take_succ_eq_append_getElem hi, List.map_append, ← getD_lt hi (d := (0 : Int))] at hI
    simp only [Int.toNat_natCast, hw]
    have hlt : ((List.take i s).map fun j => l'.getD j.toNat []).length = i := by rw [List.length_map, List.length_take]; omega
    refine ⟨by omega, by omega, cnd_f' (decide_eq_false (by omega)) ⟨by omega, by omega, cnd_f' (decide_eq_false (by omega)) (cnd_iff.2 ⟨fun h1 => ?_, fun h1 => ?_⟩)⟩⟩
    · have h1 : (i : Int) > 0 := of_decide_eq_true h1
      have hw1 : IntKind.wrap .i64 ((i : Int) - 1) = ((i - 1 : Nat) : Int) := by rw [wrapS (by omega) (by omega)]; omega
      simp only [hw1, Int.toNat_natCast]
      refine ⟨by omega, by omega, by omega, by omega, cnd_f' (decide_eq_false (by omega)) ⟨by omega, by omega, by omega, by omega, ?_, hI⟩⟩
      rw [hlt]; simp only [List.length_cons, List.length_nil]; omega
    · refine ⟨by omega, by omega, by omega, by omega, ?_, hI⟩
      rw [hlt]; simp only [List.length_cons, List.length_nil]; omega
  have bs := nums_set f5' (fun i => bitE some i)
  obtain ⟨bo, bl⟩ := part_like hg vk bs
  refine forUpL (n := l'.length) (fun k => (numsF (fun i => bitE some i) k).map fun j => l'.getD j.toNat []) rfl (fun i hi I μ hI hw => ?_) ?_
  · rw [numsF_succ', List.map_append] at hI
    have hn : ((numsF (fun i => bitE some i) i).map fun j => l'.getD j.toNat []).length ≤ i := by
      rw [List.length_map, numsF_cnt]
      have := List.countP_le_length (p := fun i : Nat => bitE some i) (l := List.range i)
      rwa [List.length_range] at this
    simp only [Int.toNat_natCast, hw]
    refine ⟨?_, cnd_iff.2 ⟨fun h1 => ?_, fun h1 => ?_⟩⟩
    · rcases (by omega : i = 0 ∨ i = 1 ∨ i = 2 ∨ i = 3 ∨ i = 4) with rfl | rfl | rfl | rfl | rfl <;> decide
    · have h1 : bitE some i = true := h1
      rw [h1, if_pos rfl] at hI
      refine ⟨by omega, by omega, ?_, hI⟩
      simp only [List.length_cons, List.length_nil]; omega
    · have h1 : bitE some i = false := h1
      rw [h1, if_neg (by simp)] at hI
      simp only [List.map_nil, List.append_nil] at hI
      exact hI
  simp only [List.take_length]
  refine cnd_t' rfl ⟨⟨hg, po, by simp⟩, cnd_t' pli fun _ _ => cnd_iff.2 ⟨fun _ => h, fun h2 => ⟨⟨hg, bo, by simp⟩, cnd_t' ?_ h⟩⟩⟩
  have h2 := of_decide_eq_false h2
  cases hlk : likeF g ((numsF (fun i => bitE some i) l'.length).map fun j => l'.getD j.toNat []) [] with
  | false => rfl
  | true =>
    have := mx _ bs (bl.1 hlk)
    rw [List.length_map, List.length_map] at h2
    omega
end Go.Proofs.Tw
set_option maxRecDepth 100000
namespace Go.Proofs.Tw
open Go Go.GX Go.Proofs

theorem ok10 : CallsOK Tryd.prog (assoc glT) 10 f10_ct :=
  callsOK_mk [] st_ok mk_ok in_ok (AllOK.cons ok45 (AllOK.cons ok46 (AllOK.cons ok47 (AllOK.cons ok48 (AllOK.cons ok34 (AllOK.cons ok50 (AllOK.cons ok51 (AllOK.cons ok29 (AllOK.cons ok18 AllOK.nil))))))))) f10_an Tryd.func10 (by kernel_rfl) (by kernel_rfl) f10_ct fun ⟨x, wrong, so, _⟩ _ Q h => (v10 x wrong so Q).mp (p10 h)
end Go.Proofs.Tw
set_option maxRecDepth 100000
set_option linter.unusedVariables false
namespace Go.Proofs.Tw
open Go Go.GX Go.Proofs Go.ChangeShapes Go.WideShapes Go.ChangeAt Go.RowKit
open Go.Proofs.YtnhgfmegaoibeaaDoor
theorem lifted10 (ok : CallsOK Tryd.prog (assoc glT) 10 f10_ct) (os : Os) (started : os.Started) (H : Type) (enc : TypeId × Value → H) :
    ReturnsInHanded {} Tryd.checked os 10 .any (fun w args => (Rows.twinSlipsSpec.pre enc Tryd.prog Tryd.f10 Rows.twinSlipsRow.domain false w args ∧ laidMetH Tryd.prog Rows.twinSlipsRow.laid w) ∧ sizedMet enc Tryd.prog Tryd.f10 (OpenSpec.ofChange Rows.twinSlipsSpec) false w args)
      (Rows.twinSlipsSpec.post enc Tryd.prog Tryd.f10 false true false false) := by
  refine returnsInHanded_of_change_and (C := Tryd.checked) (X := fun w _ => laidMetH Tryd.prog Rows.twinSlipsRow.laid w) (fun _ _ _ hh h => h.of_heap hh) own9 started (by kernel_rfl) Tryd.func10
    (ChangeSpec.witness_shaped (enc := enc) (C := Tryd.checked) (os := os) (X := fun w _ => laidMetH Tryd.prog Rows.twinSlipsRow.laid w) false (World.laidAll Tryd.prog os Rows.twinSlipsRow.laid) #[.agg #[.int .u8 0, .int .u8 0, .int .u8 0, .int .u8 0, .int .u8 0, .int .u8 0, .slice none 0 0], .slice none 0 0, .int .u8 0] 8 (World.laidAll_os _ _ _)
      (World.shaped_of_ZipB (by kernel_rfl) (by kernel_rfl)) (by kernel_rfl) (by kernel_rfl) (by kernel_rfl)
      (by rw [MakeChecks.laidMetH_plain _ _ _ (by kernel_rfl)]; exact laidMet_laidAll _ (by kernel_rfl) (by kernel_rfl))) ?_
  intro W base args ds gs before hval0 hW hc _ hL _
  have hval : ∀ (j : Nat) t v, Tryd.f10.params[j]? = some t → args[j]? = some v → Value.okWide Tryd.prog W .any base t v := hval0
  have hW' := hW
  obtain ⟨p, q, hA0, hV, rfl, hfz, hnd⟩ := hW
  have hA : DataW.TrodAll enc Tryd.prog W 0 (fun _ => true) true Tryd.f10.params.toList args.toList ds p := hA0
  rw [Tryd.params10] at hA hval
  obtain ⟨v0, v1, v2, d0, d1, d2, p0, p1, p2, rfl, rfl, rfl, h0, h1, h2⟩ := trodAll_three hA
  obtain ⟨rfl, rfl⟩ := trodVars_none hV
  simp only [List.append_nil] at hW'
  refine (lawBSB rfl ok hL (hval 0 71 v0 rfl rfl) h0 (hval 1 83 v1 rfl rfl) h1 (hval 2 5 v2 rfl rfl) h2).mono fun e W' ⟨he, hb⟩ => ?_
  subst he
  have hlt0 : ∀ x ∈ p0, x.block < W.heap.size := fun x hx => by simpa using hW'.lt x (by simp [hx])
  have hlt1 : ∀ x ∈ p1, x.block < W.heap.size := fun x hx => by simpa using hW'.lt x (by simp [hx])
  have hlt2 : ∀ x ∈ p2, x.block < W.heap.size := fun x hx => by simpa using hW'.lt x (by simp [hx])
  refine ⟨_, rfl, _, _, _, [], p0 ++ p1 ++ p2, [], hW', ?_, ?_, rfl, hb.frame _, fun h => by cases h⟩
  · exact trodAll_mk1 (shut_bool (by kernel_rfl) _)
  · rw [List.append_assoc]; exact trodAll_mk3 (Below.trod laidOut9 (by kernel_rfl) (of_decide_eq_true (by kernel_rfl)) h0 hb hlt0) (Below.trod laidOut9 (by kernel_rfl) (of_decide_eq_true (by kernel_rfl)) h1 hb hlt1) (Below.trod laidOut9 (by kernel_rfl) (of_decide_eq_true (by kernel_rfl)) h2 hb hlt2)
theorem holds10 (ok : CallsOK Tryd.prog (assoc glT) 10 f10_ct) : Rows.TwinSlipsSaid :=
  OpenClaim.holds_of_wide 10 Tryd.f10 rfl rfl rfl rfl rfl rfl rfl ⟨rfl, rfl, rfl, rfl, rfl⟩ rfl rfl rfl rfl rfl (by kernel_rfl) Tryd.func10 (by kernel_rfl)
    (of_decide_eq_true (by kernel_rfl)) (by unfold Func.isWrapper; first | (rw [if_pos (by decide +kernel)]; kernel_rfl) | (rw [if_neg (by decide +kernel)]; exact ⟨rfl, rfl⟩))
    (fun os started H enc _ => lifted10 ok os started H enc)
end Go.Proofs.Tw
