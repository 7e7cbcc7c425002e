/- Part 8 of the texts behind the proof: TwO3, TwC6, TwV7, TwV8, TwP13, TwM2, TwP14, TwO4, TwO4b, TwC7, TwV9, TwP15, TwO5, TwC8, TwV10, TwV11, TwP16, TwP17, TwM3. -/
import Derived.Test.YtnhgfmegaoibeaaDoorG07
import Derived.Test.YtnhgfmegaoibeaaDoorProg
set_option linter.unusedSimpArgs false
set_option linter.unusedVariables false
set_option maxRecDepth 100000
namespace Go.Proofs.Tw
open Go Go.GX Go.Proofs

theorem ok74 : CallsOK Tryd.prog (assoc glT) 74 f74_ct :=
  callsOK_mk [] st_ok mk_ok in_ok AllOK.nil no_an Tryd.func74 (by kernel_rfl) (by kernel_rfl) f74_ct fun ⟨n, least, most, _⟩ _ Q h => (v74 n least most Q).mp (p74 h)
theorem ok75 : CallsOK Tryd.prog (assoc glT) 75 f75_ct :=
  callsOK_mk [] st_ok mk_ok in_ok AllOK.nil i5_an Tryd.func75 (by kernel_rfl) (by kernel_rfl) f75_ct fun ⟨l, n, _⟩ _ Q h => (v75 l n Q).mp (p75 h)
theorem ok32 : CallsOK Tryd.prog (assoc glT) 32 f32_ct :=
  callsOK_mk [] st_ok mk_ok in_ok AllOK.nil i5_an Tryd.func32 (by kernel_rfl) (by kernel_rfl) f32_ct fun ⟨a, b, _⟩ _ Q h => (v32 a b Q).mp (p32 h)
theorem ok27 : CallsOK Tryd.prog (assoc glT) 27 f27_ct :=
  callsOK_mk [] st_ok mk_ok in_ok AllOK.nil i5_an Tryd.func27 (by kernel_rfl) (by kernel_rfl) f27_ct fun ⟨a, b, _⟩ _ Q h => (v27 a b Q).mp (p27 h)
theorem ok36 : CallsOK Tryd.prog (assoc glT) 36 f36_ct :=
  callsOK_mk [] st_ok mk_ok in_ok AllOK.nil i5_an Tryd.func36 (by kernel_rfl) (by kernel_rfl) f36_ct fun ⟨a, b, _⟩ _ Q h => (v36 a b Q).mp (p36 h)
theorem ok24 : CallsOK Tryd.prog (assoc glT) 24 f24_ct :=
  callsOK_mk [] st_ok mk_ok in_ok (AllOK.cons ok32 (AllOK.cons ok27 AllOK.nil)) no_an Tryd.func24 (by kernel_rfl) (by kernel_rfl) f24_ct fun ⟨a, b, _⟩ _ Q h => (v24 a b Q).mp (p24 h)
theorem ok25 : CallsOK Tryd.prog (assoc glT) 25 f25_ct :=
  callsOK_mk [] st_ok mk_ok in_ok (AllOK.cons ok32 AllOK.nil) i5_an Tryd.func25 (by kernel_rfl) (by kernel_rfl) f25_ct fun ⟨a, b, _⟩ _ Q h => (v25 a b Q).mp (p25 h)
theorem ok19 : CallsOK Tryd.prog (assoc glT) 19 f19_ct :=
  callsOK_mk [] st_ok mk_ok in_ok AllOK.nil no_an Tryd.func19 (by kernel_rfl) (by kernel_rfl) f19_ct fun g _ Q h => (v19 g Q).mp (p19 h)
theorem ok20 : CallsOK Tryd.prog (assoc glT) 20 f20_ct :=
  callsOK_mk [] st_ok mk_ok in_ok AllOK.nil f20_an Tryd.func20 (by kernel_rfl) (by kernel_rfl) f20_ct fun fs _ Q h => (v20 fs Q).mp (p20 h)
theorem ok23 : CallsOK Tryd.prog (assoc glT) 23 f23_ct :=
  callsOK_mk [] st_ok mk_ok in_ok (AllOK.cons ok74 AllOK.nil) f23_an Tryd.func23 (by kernel_rfl) (by kernel_rfl) f23_ct fun ⟨g, fs, _⟩ _ Q h => (v23 g fs Q).mp (p23 h)
theorem ok76 : CallsOK Tryd.prog (assoc glT) 76 f76_ct :=
  callsOK_mk [] st_ok mk_ok in_ok (AllOK.cons ok75 AllOK.nil) f76_an Tryd.func76 (by kernel_rfl) (by kernel_rfl) f76_ct fun ⟨g, fs, m, wo, p, _⟩ _ Q h => (v76 g fs m wo p Q).mp (p76 h)
theorem ok26 : CallsOK Tryd.prog (assoc glT) 26 f26_ct :=
  callsOK_mk [] st_ok mk_ok in_ok (AllOK.cons ok75 (AllOK.cons ok76 AllOK.nil)) f26_an Tryd.func26 (by kernel_rfl) (by kernel_rfl) f26_ct fun ⟨g, fs, m, wo, _⟩ _ Q h => (v26 g fs m wo Q).mp (p26 h)
theorem ok17 : CallsOK Tryd.prog (assoc glT) 17 f17_ct :=
  callsOK_mk [] st_ok mk_ok in_ok AllOK.nil i5_an Tryd.func17 (by kernel_rfl) (by kernel_rfl) f17_ct fun ⟨g, fs, _⟩ _ Q h => (v17 g fs Q).mp (p17 h)
theorem ok64 : CallsOK Tryd.prog (assoc glT) 64 f64_ct :=
  callsOK_mk [] st_ok mk_ok in_ok AllOK.nil no_an Tryd.func64 (by kernel_rfl) (by kernel_rfl) f64_ct fun ⟨a, b, _⟩ _ Q h => (v64 a b Q).mp (p64 h)
theorem ok62 : CallsOK Tryd.prog (assoc glT) 62 f62_ct :=
  callsOK_mk [] st_ok mk_ok in_ok (AllOK.cons ok64 AllOK.nil) no_an Tryd.func62 (by kernel_rfl) (by kernel_rfl) f62_ct fun _ _ Q h => (v62  Q).mp (p62 h)
theorem ok63 : CallsOK Tryd.prog (assoc glT) 63 f63_ct :=
  callsOK_mk [100,102,104,106] st_ok mk_ok in_ok AllOK.nil no_an Tryd.func63 (by kernel_rfl) (by kernel_rfl) f63_ct fun _ _ Q h => (v63  Q).mp (p63 h)
theorem ok18 : CallsOK Tryd.prog (assoc glT) 18 f18_ct :=
  callsOK_mk [] st_ok mk_ok in_ok (AllOK.cons ok62 (AllOK.cons ok63 (AllOK.cons ok22 (AllOK.cons ok28 (AllOK.cons ok34 (AllOK.cons ok29 (AllOK.cons ok54 (AllOK.cons ok37 (AllOK.cons ok41 (AllOK.cons ok43 (AllOK.cons ok64 (AllOK.cons ok27 (AllOK.cons ok36 (AllOK.cons ok32 AllOK.nil)))))))))))))) no_an Tryd.func18 (by kernel_rfl) (by kernel_rfl) f18_ct fun _ _ Q h => (v18  Q).mp (p18 h)
theorem ok3 : CallsOK Tryd.prog (assoc glT) 3 f3_ct :=
  callsOK_mk [] st_ok mk_ok in_ok (AllOK.cons ok17 (AllOK.cons ok18 (AllOK.cons ok19 (AllOK.cons ok20 (AllOK.cons ok21 (AllOK.cons ok22 (AllOK.cons ok23 (AllOK.cons ok24 (AllOK.cons ok25 (AllOK.cons ok26 (AllOK.cons ok27 AllOK.nil))))))))))) f3_an Tryd.func3 (by kernel_rfl) (by kernel_rfl) f3_ct fun ⟨g, fs, _⟩ _ Q h => (v3 g fs Q).mp (p3 h)
end Go.Proofs.Tw
namespace Go.Proofs.Tw
open Go Go.GX Go.Proofs
abbrev kIss : Kd := .sl 22 kIs

def ofF (below : Nat) : Nat → List Int → List (List Int)
  | 0, s => [s]
  | k + 1, s => (List.range' (firstF s) (below - firstF s)).flatMap fun (n : Nat) => ofF below k (s ++ [(n : Int)])
def f115_wp (k : Nat) : Int × Int × List Int × Unit → Unit → (List (List Int) → Prop) → Prop := fun a _ Q =>
  (0 ≤ a.1 ∧ a.1 ≤ 5 ∧ a.2.1 = (a.2.2.1.length : Int) + k ∧ a.2.1 ≤ 5 ∧ ∀ y, y ∈ a.2.2.1 → 0 ≤ y ∧ y < a.1) ∧ Q (ofF a.1.toNat k a.2.2.1)
def f115_ct (k : Nat) : Ct := ⟨arg3 kI kI kIs, .unit, kIss, f115_wp k, false, false⟩
def f115_an : Nat → Items
  | 0 => [.t 9 kI, .row 7 5001 false 22 kIs]
  | _ => []

def f115a_wp : Int × Int × List Int × Unit → Unit → (List (List Int) → Prop) → Prop := fun a b Q => ∃ k : Nat, f115_wp k a b Q
def f115a_ct : Ct := ⟨arg3 kI kI kIs, .unit, kIss, f115a_wp, false, false⟩
def setsR (below : Nat) : List (List Int) := (List.range (below + 1)).flatMap fun k => ofF below k []
def f82_wp : Int → Unit → (List (List Int) → Prop) → Prop := fun n _ Q => (0 ≤ n ∧ n ≤ 5) ∧ Q (setsR n.toNat)
def f82_ct : Ct := ⟨kI, .unit, kIss, f82_wp, false, false⟩
def f82_an : Nat → Items
  | 0 => [.t 4 kI, .row 3 5001 false 22 kIs]
  | _ => []
def othersF (n : Nat) (l : List Int) : List Int := numsF (fun i => !hasF l i) n
def f83_wp : Int × List Int × Unit → Unit → (List Int → Prop) → Prop := fun a _ Q => (0 ≤ a.1 ∧ a.1 ≤ 1000) ∧ Q (othersF a.1.toNat a.2.1)
def f83_ct : Ct := ⟨arg2 kI kIs, .unit, kIs, f83_wp, true, false⟩
def f83_an : Nat → Items
  | 0 => [.t 6 kI, .row 5 5001 false 3 kI]
  | _ => []
def f87_wp : Int × List Int × Unit → Unit → (List Slip → Prop) → Prop := fun a _ Q => a.2.1.length ≤ 1000 ∧ Q (a.2.1.map fun f => (a.1, f))
def f87_ct : Ct := ⟨arg2 kI kIs, .unit, kSlips, f87_wp, true, false⟩
def f87_an : Nat → Items
  | 0 => [.t 6 kI, .row 5 5001 false 62 kSlip]
  | _ => []
def sureOne (g : Gauge) (fs : Fans) (m i k : Nat) : Bool := decide (mxI ((fs.getD i []).getD m 0 - (fs.getD k []).getD m 0) ((fs.getD k []).getD m 0 - (fs.getD i []).getD m 0) + 2 * g.1.getD m 0 ≤ 2 * g.2.1.getD m 0)
def surelyR (g : Gauge) (fs : Fans) : Bool := (List.range g.1.length).all fun m => (List.range fs.length).all fun i => (List.range i).all fun k => sureOne g fs m i k
def f30_wp : Gauge × Fans × Unit → Unit → (Bool → Prop) → Prop := fun a _ Q => VB a.1 a.2.1 ∧ Q (surelyR a.1 a.2.1)
def f30_ct : Ct := ⟨arg2 kG kFs, .unit, .bool, f30_wp, false, false⟩
def f30_an : Nat → Items
  | 0 => [.t 5 kI]
  | 2 => [.t 6 kI]
  | 4 => [.t 7 kI]
  | _ => []
def twinR (g : Gauge) (fs : Fans) (wo : List Int) : Bool := decide (fs.length ≤ wo.length) || (List.range g.1.length).all fun m => (patR g fs m wo fs.length).2
def f31_wp : Gauge × Fans × List Int × Unit → Unit → (Bool → Prop) → Prop := fun a _ Q => VB a.1 a.2.1 ∧ Q (twinR a.1 a.2.1 a.2.2.1)
def f31_ct : Ct := ⟨arg3 kG kFs kIs, .unit, .bool, f31_wp, false, false⟩
def f31_an : Nat → Items
  | 0 => [.t 7 kI]
  | _ => []
def mostRStep (g : Gauge) (fs : Fans) (best s : List Int) : List Int := if decide (best.length < s.length) && twinR g fs (othersF fs.length s) then s else best
def mostR (g : Gauge) (fs : Fans) : List Int := (setsR fs.length).foldl (mostRStep g fs) []
def f33_wp : Gauge × Fans × Unit → Unit → (List Int → Prop) → Prop := fun a _ Q => VB a.1 a.2.1 ∧ Q (mostR a.1 a.2.1)
def f33_ct : Ct := ⟨arg2 kG kFs, .unit, kIs, f33_wp, false, false⟩
def f33_an : Nat → Items
  | 0 => [.t 7 kI, .t 6 kIs]
  | _ => []
def wrongQ (g : Gauge) (fs : Fans) (m : Nat) (s : List Int) : Bool := (patR g fs m s fs.length).2 || decide (s.length = fs.length)
def blameMR (k : Nat) (p : Nat → List Int → Bool) (m : Nat) : List Slip := (((setsR k).find? (p m)).getD []).map fun f => ((m : Int), f)
def blameFR (n k : Nat) (p : Nat → List Int → Bool) : List Slip := (List.range n).flatMap (blameMR k p)
def f35_wp : Gauge × Fans × Unit → Unit → (List Slip → Prop) → Prop := fun a _ Q => VB a.1 a.2.1 ∧ Q (blameFR a.1.1.length a.2.1.length (wrongQ a.1 a.2.1))
def f35_ct : Ct := ⟨arg2 kG kFs, .unit, kSlips, f35_wp, true, false⟩
def f35_an : Nat → Items
  | 0 => [.t 7 kI, .row 5 5001 false 62 kSlip]
  | 2 => [.t 8 kI, .row 5 5002 false 62 kSlip]
  | _ => []
def f4_wp : Gauge × Fans × Unit → Unit → (Bool → Prop) → Prop := fun _ _ Q => Q true
def f4_ct : Ct := ⟨arg2 kG kFs, .unit, .bool, f4_wp, false, false⟩
def f5_wp : Gauge × Fans × Unit → Unit → (Bool → Prop) → Prop := fun _ _ Q => Q true
def f5_ct : Ct := ⟨arg2 kG kFs, .unit, .bool, f5_wp, false, false⟩
end Go.Proofs.Tw
set_option linter.unusedVariables false
set_option maxRecDepth 100000
namespace Go.Proofs.Tw
open Go Go.GX Go.Proofs

def V82 (n : Int) (Q : List (List Int) → Prop) : Prop := ∃ (I : Int → List (List Int) → Prop), ∃ (μ : Int → List (List Int) → Nat), I (0 : Int) ([] : List (List Int)) ∧ ∀ (x : Int) (x_1 : List (List Int)), I x x_1 → cnd (decide (x ≤ n)) (f115a_wp (n, x, ([] : List Int), ()) () fun (r : List (List Int)) ↦ (List.length x_1 + List.length r) * (24 : Nat) ≤ (140737488355328 : Nat) ∧ I (IntKind.wrap IntKind.i64 (x + (1 : Int))) (x_1 ++ r) ∧ μ (IntKind.wrap IntKind.i64 (x + (1 : Int))) (x_1 ++ r) < μ x x_1) (Q x_1)
theorem v82 (n : Int) (Q : List (List Int) → Prop) : V82 n Q = vcFunc (S0 [(115, f115a_ct)] []) f82_ct.own f82_ct.fresh f82_an Tryd.f82 (bodyOf Tryd.f82) f82_ct.A f82_ct.C f82_ct.R n () Q := by kernel_rfl

def V83 (n : Int) (l : List Int) (Q : List Int → Prop) : Prop := ∃ (I : Int → List Int → Prop), ∃ (μ : Int → List Int → Nat), I (0 : Int) ([] : List Int) ∧ ∀ (x : Int) (x_1 : List Int), I x x_1 → cnd (decide (x < n)) (f75_wp (l, x, ()) () fun (r : Bool) ↦ cnd (!r) ((List.length x_1 + List.length (x :: ([] : List Int))) * (8 : Nat) ≤ (140737488355328 : Nat) ∧ I (IntKind.wrap IntKind.i64 (x + (1 : Int))) (x_1 ++ x :: ([] : List Int)) ∧ μ (IntKind.wrap IntKind.i64 (x + (1 : Int))) (x_1 ++ x :: ([] : List Int)) < μ x x_1) (I (IntKind.wrap IntKind.i64 (x + (1 : Int))) x_1 ∧ μ (IntKind.wrap IntKind.i64 (x + (1 : Int))) x_1 < μ x x_1)) (Q x_1)
theorem v83 (n : Int) (l : List Int) (Q : List Int → Prop) : V83 n l Q = vcFunc (S0 [(75, f75_ct)] []) f83_ct.own f83_ct.fresh f83_an Tryd.f83 (bodyOf Tryd.f83) f83_ct.A f83_ct.C f83_ct.R (n, l, ()) () Q := by kernel_rfl

def V87 (m : Int) (l : List Int) (Q : List (Int × Int) → Prop) : Prop := ∃ (I : Int → List (Int × Int) → Prop), ∃ (μ : Int → List (Int × Int) → Nat), I (0 : Int) ([] : List (Int × Int)) ∧ ∀ (x : Int) (x_1 : List (Int × Int)), I x x_1 → List.length l ≤ (9223372036854775807 : Nat) → cnd (decide (x < (↑(List.length l) : Int))) ((0 : Int) ≤ x ∧ x < (↑(List.length l) : Int) ∧ (List.length x_1 + List.length ((m, List.getD l (Int.toNat x) (0 : Int)) :: ([] : List (Int × Int)))) * (16 : Nat) ≤ (140737488355328 : Nat) ∧ I (IntKind.wrap IntKind.i64 (x + (1 : Int))) (x_1 ++ (m, List.getD l (Int.toNat x) (0 : Int)) :: ([] : List (Int × Int))) ∧ μ (IntKind.wrap IntKind.i64 (x + (1 : Int))) (x_1 ++ (m, List.getD l (Int.toNat x) (0 : Int)) :: ([] : List (Int × Int))) < μ x x_1) (Q x_1)
theorem v87 (m : Int) (l : List Int) (Q : List (Int × Int) → Prop) : V87 m l Q = vcFunc (S0 [] []) f87_ct.own f87_ct.fresh f87_an Tryd.f87 (bodyOf Tryd.f87) f87_ct.A f87_ct.C f87_ct.R (m, l, ()) () Q := by kernel_rfl

def V30 (g : List Int × List Int × List (Int × Int)) (fs : List (List Int)) (Q : Bool → Prop) : Prop := ∃ (I : Int → Prop), ∃ (μ : Int → Nat), I (0 : Int) ∧ ∀ (x : Int), I x → List.length (Prod.fst g) ≤ (9223372036854775807 : Nat) → cnd (decide (x < (↑(List.length (Prod.fst g)) : Int))) (∃ (I_1 : Int → Prop), ∃ (μ_1 : Int → Nat), I_1 (0 : Int) ∧ ∀ (x_1 : Int), I_1 x_1 → List.length fs ≤ (9223372036854775807 : Nat) → cnd (decide (x_1 < (↑(List.length fs) : Int))) (∃ (I : Int → Prop), ∃ (μ : Int → Nat), I (0 : Int) ∧ ∀ (x_2 : Int), I x_2 → cnd (decide (x_2 < x_1)) ((0 : Int) ≤ x_1 ∧ x_1 < (↑(List.length fs) : Int) ∧ (0 : Int) ≤ x ∧ x < (↑(List.length (List.getD fs (Int.toNat x_1) ([] : List Int))) : Int) ∧ (0 : Int) ≤ x_2 ∧ x_2 < (↑(List.length fs) : Int) ∧ (0 : Int) ≤ x ∧ x < (↑(List.length (List.getD fs (Int.toNat x_2) ([] : List Int))) : Int) ∧ (0 : Int) ≤ x ∧ x < (↑(List.length (Prod.fst g)) : Int) ∧ (0 : Int) ≤ x ∧ x < (↑(List.length (Prod.fst (Prod.snd g))) : Int) ∧ cnd (decide (IntKind.wrap IntKind.i64 (mxI (IntKind.wrap IntKind.i64 (List.getD (List.getD fs (Int.toNat x_1) ([] : List Int)) (Int.toNat x) (0 : Int) - List.getD (List.getD fs (Int.toNat x_2) ([] : List Int)) (Int.toNat x) (0 : Int))) (IntKind.wrap IntKind.i64 (List.getD (List.getD fs (Int.toNat x_2) ([] : List Int)) (Int.toNat x) (0 : Int) - List.getD (List.getD fs (Int.toNat x_1) ([] : List Int)) (Int.toNat x) (0 : Int))) + IntKind.wrap IntKind.i64 ((2 : Int) * List.getD (Prod.fst g) (Int.toNat x) (0 : Int))) > IntKind.wrap IntKind.i64 ((2 : Int) * List.getD (Prod.fst (Prod.snd g)) (Int.toNat x) (0 : Int)))) (Q false) (I (IntKind.wrap IntKind.i64 (x_2 + (1 : Int))) ∧ μ (IntKind.wrap IntKind.i64 (x_2 + (1 : Int))) < μ x_2)) (I_1 (IntKind.wrap IntKind.i64 (x_1 + (1 : Int))) ∧ μ_1 (IntKind.wrap IntKind.i64 (x_1 + (1 : Int))) < μ_1 x_1)) (I (IntKind.wrap IntKind.i64 (x + (1 : Int))) ∧ μ (IntKind.wrap IntKind.i64 (x + (1 : Int))) < μ x)) (Q true)
theorem v30 (g : List Int × List Int × List (Int × Int)) (fs : List (List Int)) (Q : Bool → Prop) : V30 g fs Q = vcFunc (S0 [] []) f30_ct.own f30_ct.fresh f30_an Tryd.f30 (bodyOf Tryd.f30) f30_ct.A f30_ct.C f30_ct.R (g, fs, ()) () Q := by kernel_rfl

def V31 (g : List Int × List Int × List (Int × Int)) (fs : List (List Int)) (wo : List Int) (Q : Bool → Prop) : Prop := List.length wo ≤ (9223372036854775807 : Nat) → List.length fs ≤ (9223372036854775807 : Nat) → cnd (decide ((↑(List.length wo) : Int) ≥ (↑(List.length fs) : Int))) (Q true) (∃ (I : Int → Prop), ∃ (μ : Int → Nat), I (0 : Int) ∧ ∀ (x : Int), I x → List.length (Prod.fst g) ≤ (9223372036854775807 : Nat) → cnd (decide (x < (↑(List.length (Prod.fst g)) : Int))) (f26_wp ((Prod.fst g, Prod.fst (Prod.snd g), Prod.snd (Prod.snd g)), fs, x, wo, ()) () fun (r : (Int × Int) × Bool × Unit) ↦ cnd (!Prod.fst (Prod.snd r)) (Q false) (I (IntKind.wrap IntKind.i64 (x + (1 : Int))) ∧ μ (IntKind.wrap IntKind.i64 (x + (1 : Int))) < μ x)) (Q true))
theorem v31 (g : List Int × List Int × List (Int × Int)) (fs : List (List Int)) (wo : List Int) (Q : Bool → Prop) : V31 g fs wo Q = vcFunc (S0 [(26, f26_ct)] []) f31_ct.own f31_ct.fresh f31_an Tryd.f31 (bodyOf Tryd.f31) f31_ct.A f31_ct.C f31_ct.R (g, fs, wo, ()) () Q := by kernel_rfl

def V33 (g : List Int × List Int × List (Int × Int)) (fs : List (List Int)) (Q : List Int → Prop) : Prop := List.length fs ≤ (9223372036854775807 : Nat) → f82_wp (↑(List.length fs) : Int) () fun (r : List (List Int)) ↦ ∃ (I : Int → List Int → Prop), ∃ (μ : Int → List Int → Nat), I (0 : Int) ([] : List Int) ∧ ∀ (x : Int) (x_1 : List Int), I x x_1 → List.length r ≤ (9223372036854775807 : Nat) → cnd (decide (x < (↑(List.length r) : Int))) ((0 : Int) ≤ x ∧ x < (↑(List.length r) : Int) ∧ cnd (decide ((↑(List.length (List.getD r (Int.toNat x) ([] : List Int))) : Int) > (↑(List.length x_1) : Int))) ((0 : Int) ≤ x ∧ x < (↑(List.length r) : Int) ∧ ∃ (r_1 : List Int), (f83_wp ((↑(List.length fs) : Int), List.getD r (Int.toNat x) ([] : List Int), ()) () fun (r' : List Int) ↦ r' = r_1) ∧ ∃ (r_2 : Bool), (f31_wp ((Prod.fst g, Prod.fst (Prod.snd g), Prod.snd (Prod.snd g)), fs, r_1, ()) () fun (r' : Bool) ↦ r' = r_2) ∧ cnd r_2 ((0 : Int) ≤ x ∧ x < (↑(List.length r) : Int) ∧ I (IntKind.wrap IntKind.i64 (x + (1 : Int))) (List.getD r (Int.toNat x) ([] : List Int)) ∧ μ (IntKind.wrap IntKind.i64 (x + (1 : Int))) (List.getD r (Int.toNat x) ([] : List Int)) < μ x x_1) (I (IntKind.wrap IntKind.i64 (x + (1 : Int))) x_1 ∧ μ (IntKind.wrap IntKind.i64 (x + (1 : Int))) x_1 < μ x x_1)) (I (IntKind.wrap IntKind.i64 (x + (1 : Int))) x_1 ∧ μ (IntKind.wrap IntKind.i64 (x + (1 : Int))) x_1 < μ x x_1)) (Q x_1)
theorem v33 (g : List Int × List Int × List (Int × Int)) (fs : List (List Int)) (Q : List Int → Prop) : V33 g fs Q = vcFunc (S0 [(82, f82_ct), (83, f83_ct), (31, f31_ct)] [5000103]) f33_ct.own f33_ct.fresh f33_an Tryd.f33 (bodyOf Tryd.f33) f33_ct.A f33_ct.C f33_ct.R (g, fs, ()) () Q := by kernel_rfl

def V35 (g : List Int × List Int × List (Int × Int)) (fs : List (List Int)) (Q : List (Int × Int) → Prop) : Prop := List.length fs ≤ (9223372036854775807 : Nat) → f82_wp (↑(List.length fs) : Int) () fun (r : List (List Int)) ↦ ∃ (I : Int → List (Int × Int) → Prop), ∃ (μ : Int → List (Int × Int) → Nat), I (0 : Int) ([] : List (Int × Int)) ∧ ∀ (x : Int) (x_1 : List (Int × Int)), I x x_1 → List.length (Prod.fst g) ≤ (9223372036854775807 : Nat) → cnd (decide (x < (↑(List.length (Prod.fst g)) : Int))) (∃ (I_1 : Int → List (Int × Int) → Prop), ∃ (μ_1 : Int → List (Int × Int) → Nat), I_1 (0 : Int) x_1 ∧ ∀ (x_2 : Int) (x_3 : List (Int × Int)), I_1 x_2 x_3 → List.length r ≤ (9223372036854775807 : Nat) → cnd (decide (x_2 < (↑(List.length r) : Int))) ((0 : Int) ≤ x_2 ∧ x_2 < (↑(List.length r) : Int) ∧ ∃ (r_1 : (Int × Int) × Bool × Unit), (f26_wp ((Prod.fst g, Prod.fst (Prod.snd g), Prod.snd (Prod.snd g)), fs, x, List.getD r (Int.toNat x_2) ([] : List Int), ()) () fun (r' : (Int × Int) × Bool × Unit) ↦ r' = r_1) ∧ cnd (Prod.fst (Prod.snd r_1)) ((0 : Int) ≤ x_2 ∧ x_2 < (↑(List.length r) : Int) ∧ f87_wp (x, List.getD r (Int.toNat x_2) ([] : List Int), ()) () fun (r : List (Int × Int)) ↦ (List.length x_3 + List.length r) * (16 : Nat) ≤ (140737488355328 : Nat) ∧ I (IntKind.wrap IntKind.i64 (x + (1 : Int))) (x_3 ++ r) ∧ μ (IntKind.wrap IntKind.i64 (x + (1 : Int))) (x_3 ++ r) < μ x x_1) ((0 : Int) ≤ x_2 ∧ x_2 < (↑(List.length r) : Int) ∧ (List.length (List.getD r (Int.toNat x_2) ([] : List Int)) ≤ (9223372036854775807 : Nat) → List.length fs ≤ (9223372036854775807 : Nat) → cnd ((↑(List.length (List.getD r (Int.toNat x_2) ([] : List Int))) : Int) == (↑(List.length fs) : Int)) ((0 : Int) ≤ x_2 ∧ x_2 < (↑(List.length r) : Int) ∧ f87_wp (x, List.getD r (Int.toNat x_2) ([] : List Int), ()) () fun (r : List (Int × Int)) ↦ (List.length x_3 + List.length r) * (16 : Nat) ≤ (140737488355328 : Nat) ∧ I (IntKind.wrap IntKind.i64 (x + (1 : Int))) (x_3 ++ r) ∧ μ (IntKind.wrap IntKind.i64 (x + (1 : Int))) (x_3 ++ r) < μ x x_1) (I_1 (IntKind.wrap IntKind.i64 (x_2 + (1 : Int))) x_3 ∧ μ_1 (IntKind.wrap IntKind.i64 (x_2 + (1 : Int))) x_3 < μ_1 x_2 x_3)))) (I (IntKind.wrap IntKind.i64 (x + (1 : Int))) x_3 ∧ μ (IntKind.wrap IntKind.i64 (x + (1 : Int))) x_3 < μ x x_1)) (Q x_1)
theorem v35 (g : List Int × List Int × List (Int × Int)) (fs : List (List Int)) (Q : List (Int × Int) → Prop) : V35 g fs Q = vcFunc (S0 [(82, f82_ct), (26, f26_ct), (87, f87_ct)] []) f35_ct.own f35_ct.fresh f35_an Tryd.f35 (bodyOf Tryd.f35) f35_ct.A f35_ct.C f35_ct.R (g, fs, ()) () Q := by kernel_rfl

def V4 (g : List Int × List Int × List (Int × Int)) (fs : List (List Int)) (Q : Bool → Prop) : Prop := f17_wp ((Prod.fst g, Prod.fst (Prod.snd g), Prod.snd (Prod.snd g)), fs, ()) () fun (r : Bool) ↦ cnd r (f18_wp () () fun (r : Bool) ↦ Q r) (f19_wp (Prod.fst g, Prod.fst (Prod.snd g), Prod.snd (Prod.snd g)) () fun (r : List Int × List Int × List (Int × Int)) ↦ f20_wp fs () fun (r_1 : List (List Int)) ↦ f28_wp ((Prod.fst r, Prod.fst (Prod.snd r), Prod.snd (Prod.snd r)), r_1, ()) () fun (r_2 : Bool × Bool × Int × Unit) ↦ f29_wp ((Prod.fst r, Prod.fst (Prod.snd r), Prod.snd (Prod.snd r)), r_1, ()) () fun (r_3 : List Int × Int × Unit) ↦ f23_wp ((Prod.fst g, Prod.fst (Prod.snd g), Prod.snd (Prod.snd g)), fs, ()) () fun (r_4 : Int) ↦ f24_wp ((Prod.fst r, Prod.fst (Prod.snd r), Prod.snd (Prod.snd r)), (Prod.fst g, Prod.fst (Prod.snd g), Prod.snd (Prod.snd g)), ()) () fun (r : Bool) ↦ cnd (!r) (Q false) (f25_wp (r_1, fs, ()) () fun (r : Bool) ↦ cnd (!r) (Q false) (cnd (Prod.fst (Prod.snd (Prod.snd r_2)) != r_4) (Q false) (cnd (Prod.fst (Prod.snd r_3) != r_4) (Q false) (cnd (r_4 != (0 : Int)) (cnd (!Prod.fst r_2) (cnd (!Prod.fst (Prod.snd r_2)) (List.length (Prod.fst r_3) ≤ (9223372036854775807 : Nat) → cnd ((↑(List.length (Prod.fst r_3)) : Int) == (0 : Int)) (f18_wp () () fun (r : Bool) ↦ Q r) (Q false)) (Q false)) (Q false)) (f30_wp ((Prod.fst g, Prod.fst (Prod.snd g), Prod.snd (Prod.snd g)), fs, ()) () fun (r : Bool) ↦ cnd (Prod.fst r_2 == r) (f31_wp ((Prod.fst g, Prod.fst (Prod.snd g), Prod.snd (Prod.snd g)), fs, ([] : List Int), ()) () fun (r : Bool) ↦ cnd (Prod.fst (Prod.snd r_2) == r) (f33_wp ((Prod.fst g, Prod.fst (Prod.snd g), Prod.snd (Prod.snd g)), fs, ()) () fun (r : List Int) ↦ f32_wp (Prod.fst r_3, r, ()) () fun (r : Bool) ↦ cnd r (f18_wp () () fun (r : Bool) ↦ Q r) (Q false)) (Q false)) (Q false)))))))
theorem v4 (g : List Int × List Int × List (Int × Int)) (fs : List (List Int)) (Q : Bool → Prop) : V4 g fs Q = vcFunc (S0 [(17, f17_ct), (18, f18_ct), (19, f19_ct), (20, f20_ct), (28, f28_ct), (29, f29_ct), (23, f23_ct), (24, f24_ct), (25, f25_ct), (30, f30_ct), (31, f31_ct), (33, f33_ct), (32, f32_ct)] []) f4_ct.own f4_ct.fresh no_an Tryd.f4 (bodyOf Tryd.f4) f4_ct.A f4_ct.C f4_ct.R (g, fs, ()) () Q := by kernel_rfl

def V5 (g : List Int × List Int × List (Int × Int)) (fs : List (List Int)) (Q : Bool → Prop) : Prop := f17_wp ((Prod.fst g, Prod.fst (Prod.snd g), Prod.snd (Prod.snd g)), fs, ()) () fun (r : Bool) ↦ cnd r (f18_wp () () fun (r : Bool) ↦ Q r) (f19_wp (Prod.fst g, Prod.fst (Prod.snd g), Prod.snd (Prod.snd g)) () fun (r : List Int × List Int × List (Int × Int)) ↦ f20_wp fs () fun (r_1 : List (List Int)) ↦ f34_wp ((Prod.fst r, Prod.fst (Prod.snd r), Prod.snd (Prod.snd r)), r_1, ()) () fun (r_2 : List (Int × Int) × Int × Unit) ↦ f24_wp ((Prod.fst r, Prod.fst (Prod.snd r), Prod.snd (Prod.snd r)), (Prod.fst g, Prod.fst (Prod.snd g), Prod.snd (Prod.snd g)), ()) () fun (r : Bool) ↦ cnd (!r) (Q false) (f25_wp (r_1, fs, ()) () fun (r : Bool) ↦ cnd (!r) (Q false) (f23_wp ((Prod.fst g, Prod.fst (Prod.snd g), Prod.snd (Prod.snd g)), fs, ()) () fun (r : Int) ↦ cnd (r == (0 : Int)) (f35_wp ((Prod.fst g, Prod.fst (Prod.snd g), Prod.snd (Prod.snd g)), fs, ()) () fun (r_3 : List (Int × Int)) ↦ List.length r_3 ≤ (9223372036854775807 : Nat) → cnd ((↑(List.length r_3) : Int) == (0 : Int)) (cnd (Prod.fst (Prod.snd r_2) == (6 : Int)) (f36_wp (Prod.fst r_2, r_3, ()) () fun (r : Bool) ↦ cnd r (f18_wp () () fun (r : Bool) ↦ Q r) (Q false)) (Q false)) (cnd (Prod.fst (Prod.snd r_2) == r) (f36_wp (Prod.fst r_2, r_3, ()) () fun (r : Bool) ↦ cnd r (f18_wp () () fun (r : Bool) ↦ Q r) (Q false)) (Q false))) (cnd (Prod.fst (Prod.snd r_2) == r) (f36_wp (Prod.fst r_2, ([] : List (Int × Int)), ()) () fun (r : Bool) ↦ cnd r (f18_wp () () fun (r : Bool) ↦ Q r) (Q false)) (Q false)))))
theorem v5 (g : List Int × List Int × List (Int × Int)) (fs : List (List Int)) (Q : Bool → Prop) : V5 g fs Q = vcFunc (S0 [(17, f17_ct), (18, f18_ct), (19, f19_ct), (20, f20_ct), (34, f34_ct), (24, f24_ct), (25, f25_ct), (23, f23_ct), (35, f35_ct), (36, f36_ct)] []) f5_ct.own f5_ct.fresh no_an Tryd.f5 (bodyOf Tryd.f5) f5_ct.A f5_ct.C f5_ct.R (g, fs, ()) () Q := by kernel_rfl

end Go.Proofs.Tw
set_option linter.unusedVariables false
set_option maxRecDepth 100000
namespace Go.Proofs.Tw
open Go Go.GX Go.Proofs

def V115z (below : Int) (many : Int) (s : List Int) (Q : List (List Int) → Prop) : Prop := List.length s ≤ (9223372036854775807 : Nat) → cnd ((↑(List.length s) : Int) == many) (Q (s :: ([] : List (List Int)))) (List.length s ≤ (9223372036854775807 : Nat) → cnd (decide ((↑(List.length s) : Int) > (0 : Int))) (List.length s ≤ (9223372036854775807 : Nat) → (0 : Int) ≤ IntKind.wrap IntKind.i64 ((↑(List.length s) : Int) - (1 : Int)) ∧ IntKind.wrap IntKind.i64 ((↑(List.length s) : Int) - (1 : Int)) < (↑(List.length s) : Int) ∧ ∃ (I : Int → List (List Int) → Prop), ∃ (μ : Int → List (List Int) → Nat), I (IntKind.wrap IntKind.i64 (List.getD s (Int.toNat (IntKind.wrap IntKind.i64 ((↑(List.length s) : Int) - (1 : Int)))) (0 : Int) + (1 : Int))) ([] : List (List Int)) ∧ ∀ (x : Int) (x_1 : List (List Int)), I x x_1 → cnd (decide (x < below)) ((List.length ([] : List Int) + List.length s) * (8 : Nat) ≤ (140737488355328 : Nat) ∧ (List.length (([] : List Int) ++ s) + List.length (x :: ([] : List Int))) * (8 : Nat) ≤ (140737488355328 : Nat) ∧ False) (Q x_1)) (∃ (I : Int → List (List Int) → Prop), ∃ (μ : Int → List (List Int) → Nat), I (0 : Int) ([] : List (List Int)) ∧ ∀ (x : Int) (x_1 : List (List Int)), I x x_1 → cnd (decide (x < below)) ((List.length ([] : List Int) + List.length s) * (8 : Nat) ≤ (140737488355328 : Nat) ∧ (List.length (([] : List Int) ++ s) + List.length (x :: ([] : List Int))) * (8 : Nat) ≤ (140737488355328 : Nat) ∧ False) (Q x_1)))
theorem V115zE (below : Int) (many : Int) (s : List Int) (Q : List (List Int) → Prop) : V115z below many s Q = (vcFunc (S0 [] []) false false f115_an Tryd.f115 (bodyOf Tryd.f115) (arg3 kI kI kIs) .unit kIss (below, many, s, ()) () Q) := by kernel_rfl

def V115 (k : Nat) (below : Int) (many : Int) (s : List Int) (Q : List (List Int) → Prop) : Prop := List.length s ≤ (9223372036854775807 : Nat) → cnd ((↑(List.length s) : Int) == many) (Q (s :: ([] : List (List Int)))) (List.length s ≤ (9223372036854775807 : Nat) → cnd (decide ((↑(List.length s) : Int) > (0 : Int))) (List.length s ≤ (9223372036854775807 : Nat) → (0 : Int) ≤ IntKind.wrap IntKind.i64 ((↑(List.length s) : Int) - (1 : Int)) ∧ IntKind.wrap IntKind.i64 ((↑(List.length s) : Int) - (1 : Int)) < (↑(List.length s) : Int) ∧ ∃ (I : Int → List (List Int) → Prop), ∃ (μ : Int → List (List Int) → Nat), I (IntKind.wrap IntKind.i64 (List.getD s (Int.toNat (IntKind.wrap IntKind.i64 ((↑(List.length s) : Int) - (1 : Int)))) (0 : Int) + (1 : Int))) ([] : List (List Int)) ∧ ∀ (x : Int) (x_1 : List (List Int)), I x x_1 → cnd (decide (x < below)) ((List.length ([] : List Int) + List.length s) * (8 : Nat) ≤ (140737488355328 : Nat) ∧ (List.length (([] : List Int) ++ s) + List.length (x :: ([] : List Int))) * (8 : Nat) ≤ (140737488355328 : Nat) ∧ f115_wp k (below, many, ([] : List Int) ++ s ++ x :: ([] : List Int), ()) () fun (r : List (List Int)) ↦ (List.length x_1 + List.length r) * (24 : Nat) ≤ (140737488355328 : Nat) ∧ I (IntKind.wrap IntKind.i64 (x + (1 : Int))) (x_1 ++ r) ∧ μ (IntKind.wrap IntKind.i64 (x + (1 : Int))) (x_1 ++ r) < μ x x_1) (Q x_1)) (∃ (I : Int → List (List Int) → Prop), ∃ (μ : Int → List (List Int) → Nat), I (0 : Int) ([] : List (List Int)) ∧ ∀ (x : Int) (x_1 : List (List Int)), I x x_1 → cnd (decide (x < below)) ((List.length ([] : List Int) + List.length s) * (8 : Nat) ≤ (140737488355328 : Nat) ∧ (List.length (([] : List Int) ++ s) + List.length (x :: ([] : List Int))) * (8 : Nat) ≤ (140737488355328 : Nat) ∧ f115_wp k (below, many, ([] : List Int) ++ s ++ x :: ([] : List Int), ()) () fun (r : List (List Int)) ↦ (List.length x_1 + List.length r) * (24 : Nat) ≤ (140737488355328 : Nat) ∧ I (IntKind.wrap IntKind.i64 (x + (1 : Int))) (x_1 ++ r) ∧ μ (IntKind.wrap IntKind.i64 (x + (1 : Int))) (x_1 ++ r) < μ x x_1) (Q x_1)))
theorem V115E (k : Nat) (below : Int) (many : Int) (s : List Int) (Q : List (List Int) → Prop) : V115 k below many s Q = (vcFunc (S0 [(115, f115_ct k)] []) false false f115_an Tryd.f115 (bodyOf Tryd.f115) (arg3 kI kI kIs) .unit kIss (below, many, s, ()) () Q) := by kernel_rfl

end Go.Proofs.Tw
set_option linter.unusedVariables false
namespace Go.Proofs.Tw
open Go Go.GX Go.Proofs

theorem flat_len {α β : Type} (f : α → List β) (c : Nat) : ∀ l : List α, (∀ n, n ∈ l → (f n).length ≤ c) → (l.flatMap f).length ≤ l.length * c
  | [], _ => by simp
  | a :: l, h => by
    have h1 := h a (by simp)
    have h2 := flat_len f c l (fun n hn => h n (by simp [hn]))
    rw [List.flatMap_cons, List.length_append, List.length_cons, Nat.add_mul]
    omega
theorem ofF_len (B : Nat) (hB : B ≤ 5) : ∀ (k : Nat) (s : List Int), (ofF B k s).length ≤ 5 ^ k
  | 0, s => by simp [ofF]
  | k + 1, s => by
    have := flat_len (fun (n : Nat) => ofF B k (s ++ [(n : Int)])) (5 ^ k) (List.range' (firstF s) (B - firstF s)) (fun n _ => ofF_len B hB k _)
    rw [List.length_range'] at this
    rw [ofF, Nat.pow_succ, Nat.mul_comm]
    exact Nat.le_trans this (Nat.mul_le_mul_right _ (by omega))

def ofTo (B k : Nat) (s : List Int) (j : Nat) : List (List Int) := (List.range' (firstF s) j).flatMap fun (n : Nat) => ofF B k (s ++ [(n : Int)])
theorem ofTo_succ (B k : Nat) (s : List Int) (j : Nat) : ofTo B k s (j + 1) = ofTo B k s j ++ ofF B k (s ++ [((firstF s + j : Nat) : Int)]) := by
  unfold ofTo
  rw [List.range'_concat, List.flatMap_append]
  simp
theorem pow5 {k : Nat} (h : k ≤ 5) : 5 ^ k ≤ 3125 := Nat.pow_le_pow_right (by decide) h
theorem loop115 {B k : Nat} (hB : B ≤ 5) {s : List Int} (hk : s.length + (k + 1) ≤ 5) (hs : ∀ y, y ∈ s → 0 ≤ y ∧ y < (B : Int)) {Q : List (List Int) → Prop} (h : Q (ofF B (k + 1) s)) :
    ∃ (I : Int → List (List Int) → Prop) (μ : Int → List (List Int) → Nat), I (firstF s : Nat) [] ∧ ∀ (x : Int) (x_1 : List (List Int)), I x x_1 →
      cnd (decide (x < (B : Int))) ((([] : List Int).length + s.length) * 8 ≤ 140737488355328 ∧ ((([] : List Int) ++ s).length + (x :: ([] : List Int)).length) * 8 ≤ 140737488355328 ∧
        f115_wp k ((B : Int), ((s.length : Int) + ((k + 1 : Nat) : Int)), [] ++ s ++ x :: [], ()) () fun r => (x_1.length + r.length) * 24 ≤ 140737488355328 ∧ I (IntKind.wrap .i64 (x + 1)) (x_1 ++ r) ∧ μ (IntKind.wrap .i64 (x + 1)) (x_1 ++ r) < μ x x_1) (Q x_1) := by
  have hfl : firstF s ≤ B := by
    unfold firstF
    split
    · rename_i x hx
      have := hs x (List.mem_of_getLast? hx)
      omega
    · omega
  refine ⟨fun x l => ∃ j : Nat, firstF s + j ≤ B ∧ x = ((firstF s + j : Nat) : Int) ∧ l = ofTo B k s j, fun x _ => (B - x).toNat, ⟨0, by omega, by simp, rfl⟩, ?_⟩
  rintro x l ⟨j, hj, rfl, rfl⟩
  refine cnd_iff.2 ⟨fun hc => ?_, fun hc => ?_⟩
  · have hc := of_decide_eq_true hc
    have hw : IntKind.wrap .i64 (((firstF s + j : Nat) : Int) + 1) = ((firstF s + (j + 1) : Nat) : Int) := by rw [wrapS (by omega) (by omega)]; omega
    have hst := ofTo_succ B k s j
    refine ⟨by simp; omega, by simp; omega, ⟨by simp only; omega, by simp only; omega, by simp only [List.nil_append, List.length_append, List.length_cons, List.length_nil]; omega, by simp only; omega, fun y hy => ?_⟩, ?_⟩
    · simp only [List.nil_append] at hy
      rcases List.mem_append.1 hy with hy | hy
      · exact hs y hy
      · simp at hy; omega
    · simp only [Int.toNat_natCast, List.nil_append]
      have hl : (ofTo B k s j ++ ofF B k (s ++ [((firstF s + j : Nat) : Int)])).length ≤ (j + 1) * 5 ^ k := by
        rw [← hst]
        have := flat_len (fun (n : Nat) => ofF B k (s ++ [(n : Int)])) (5 ^ k) (List.range' (firstF s) (j + 1)) (fun n _ => ofF_len B hB k _)
        rw [List.length_range'] at this
        exact this
      rw [List.length_append] at hl
      have h5 := pow5 (show k ≤ 5 by omega)
      have : (j + 1) * 5 ^ k ≤ 5 * 3125 := Nat.mul_le_mul (by omega) h5
      refine ⟨by omega, ⟨j + 1, by omega, hw, hst.symm⟩, by rw [hw]; omega⟩
  · have hc := of_decide_eq_false hc
    have : j = B - firstF s := by omega
    subst this
    exact h
theorem first_wrap {B : Nat} (hB : B ≤ 5) {s : List Int} (hs : ∀ y, y ∈ s → 0 ≤ y ∧ y < (B : Int)) (h0 : 0 < s.length) : IntKind.wrap .i64 (s.getD (s.length - 1) 0 + 1) = (firstF s : Nat) := by
  have hlt : s.length - 1 < s.length := by omega
  have h1 : s.getLast? = some (s.getD (s.length - 1) 0) := by
    rw [List.getLast?_eq_getElem?, List.getD_eq_getElem?_getD, List.getElem?_eq_getElem hlt]; rfl
  have h2 := hs _ (List.mem_of_getLast? h1)
  unfold firstF
  rw [h1, wrapS (by omega) (by omega)]
  simp only; omega
theorem p115z {below many : Int} {s : List Int} {Q : List (List Int) → Prop} (h : f115_wp 0 (below, many, s, ()) () Q) : V115z below many s Q := by
  obtain ⟨⟨_, _, h3, _⟩, h⟩ := h
  have h3 : many = (s.length : Int) + ((0 : Nat) : Int) := h3
  exact fun _ => cnd_t (by simp [h3]) h
theorem p115 {k : Nat} {below many : Int} {s : List Int} {Q : List (List Int) → Prop} (h : f115_wp (k + 1) (below, many, s, ()) () Q) : V115 k below many s Q := by
  obtain ⟨⟨h1, h2, h3, h4, h5⟩, h⟩ := h
  simp only at h1 h2 h3 h4 h5
  obtain ⟨B, rfl⟩ := Int.eq_ofNat_of_zero_le h1
  have h : Q (ofF B (k + 1) s) := h
  subst h3
  have hB : B ≤ 5 := by omega
  refine fun hl => cnd_f (by simp; omega) fun _ => cnd_iff.2 ⟨fun hc _ => ?_, fun hc => ?_⟩
  · have hc := of_decide_eq_true hc
    have hw : IntKind.wrap .i64 ((s.length : Int) - 1) = ((s.length - 1 : Nat) : Int) := by rw [wrapS (by omega) (by omega)]; omega
    rw [hw, Int.toNat_natCast (s.length - 1), first_wrap hB h5 (by omega)]
    exact ⟨by omega, by omega, loop115 hB (by omega) h5 h⟩
  · have hc := of_decide_eq_false hc
    have : s = [] := List.eq_nil_of_length_eq_zero (by omega)
    subst this
    exact loop115 hB (by simpa using (by omega : k + 1 ≤ 5)) h5 h
theorem p82 {n : Int} {Q : List (List Int) → Prop} (h : f82_wp n () Q) : V82 n Q := by
  obtain ⟨⟨h1, h2⟩, h⟩ := h
  obtain ⟨B, rfl⟩ := Int.eq_ofNat_of_zero_le h1
  have hB : B ≤ 5 := by omega
  have h : Q (setsR B) := h
  have step : ∀ i, ((List.range (i + 1)).flatMap fun k => ofF B k []) = ((List.range i).flatMap fun k => ofF B k []) ++ ofF B i [] := fun i => by
    rw [List.range_succ, List.flatMap_append]; simp
  refine ⟨fun x l => ∃ i : Nat, i ≤ B + 1 ∧ x = i ∧ l = (List.range i).flatMap fun k => ofF B k [], fun x _ => (B + 1 - x).toNat, ⟨0, by omega, rfl, rfl⟩, ?_⟩
  rintro x l ⟨i, hi, rfl, rfl⟩
  refine cnd_iff.2 ⟨fun hc => ?_, fun hc => ?_⟩
  · have hc := of_decide_eq_true hc
    have hw : IntKind.wrap .i64 ((i : Int) + 1) = ((i + 1 : Nat) : Int) := by rw [wrapS (by omega) (by omega)]; push_cast; rfl
    refine ⟨i, ⟨by simp only; omega, by simp only; omega, by simp, by simp only; omega, fun y hy => (by simp at hy)⟩, ?_⟩
    simp only [Int.toNat_natCast]
    have hl : (((List.range i).flatMap fun k => ofF B k []) ++ ofF B i []).length ≤ (i + 1) * 3125 := by
      rw [← step]
      have := flat_len (fun k => ofF B k []) 3125 (List.range (i + 1)) (fun n hn => Nat.le_trans (ofF_len B hB n []) (pow5 (by have := List.mem_range.1 hn; omega)))
      rwa [List.length_range] at this
    rw [List.length_append] at hl
    exact ⟨by omega, ⟨i + 1, by omega, hw, (step i).symm⟩, by rw [hw]; omega⟩
  · have hc := of_decide_eq_false hc
    have : i = B + 1 := by omega
    subst this
    exact h
theorem p83 {n : Int} {l : List Int} {Q : List Int → Prop} (h : f83_wp (n, l, ()) () Q) : V83 n l Q := by
  obtain ⟨⟨h1, h2⟩, h⟩ := h
  simp only at h1 h2
  obtain ⟨N, rfl⟩ := Int.eq_ofNat_of_zero_le h1
  have h : Q (othersF N l) := h
  refine forUp (n := N) (by omega) (fun k => othersF k l) rfl (fun k hk I μ hI hw => ?_) h
  have hs : othersF (k + 1) l = othersF k l ++ if !hasF l k then [(k : Int)] else [] := numsF_succ _ _
  have hlen : (othersF k l).length ≤ k := numsF_len _ _
  show cnd (!hasF l k) _ _
  rw [hw]
  refine cnd_iff.2 ⟨fun hc => ⟨by simp only [List.length_cons, List.length_nil]; omega, ?_⟩, fun hc => ?_⟩
  · rw [hc] at hs; rw [hs] at hI; exact hI
  · rw [hc] at hs; rw [hs] at hI; simpa using hI
theorem p87 {m : Int} {l : List Int} {Q : List Slip → Prop} (h : f87_wp (m, l, ()) () Q) : V87 m l Q := by
  obtain ⟨h1, h⟩ := h
  simp only at h1
  have h : Q (l.map fun f => (m, f)) := h
  refine forUpL (n := l.length) (fun k => (l.take k).map fun f => (m, f)) rfl (fun k hk I μ hI hw => ?_) (by rw [List.take_length]; exact h)
  rw [hw]
  simp only [Int.toNat_natCast]
  have hs : (l.take (k + 1)).map (fun f => (m, f)) = (l.take k).map (fun f => (m, f)) ++ [(m, l.getD k 0)] := by
    rw [List.take_succ_eq_append_getElem hk, List.map_append, getD_lt hk]; rfl
  rw [hs] at hI
  exact ⟨by omega, by omega, by simp; omega, hI⟩
theorem p30 {g : Gauge} {fs : Fans} {Q : Bool → Prop} (h : f30_wp (g, fs, ()) () Q) : V30 g fs Q := by
  obtain ⟨v, h⟩ := h
  simp only at v
  have h : Q (surelyR g fs) := h
  have n4 := v.n4
  have f5 := v.f5
  refine forUpGL (n := g.1.length) (fun m => ∀ m', m' < m → ((List.range fs.length).all fun i => (List.range i).all fun k => sureOne g fs m' i k) = true) (fun m' hm => absurd hm (Nat.not_lt_zero _)) (fun m hm hgo hn1 I μ hI hw => ?_) (fun hgo => ?_)
  · refine forUpGL (n := fs.length) (fun i => ∀ i', i' < i → ((List.range i').all fun k => sureOne g fs m i' k) = true) (fun i' hi => absurd hi (Nat.not_lt_zero _)) (fun i hi hgo2 hn2 I2 μ2 hI2 hw2 => ?_) (fun hgo2 => ?_)
    · refine forUpG (n := i) (by omega) (fun k => ∀ k', k' < k → sureOne g fs m i k' = true) (fun k' hk => absurd hk (Nat.not_lt_zero _)) (fun k hk hgo3 I3 μ3 hI3 hw3 => ?_) (fun hgo3 => ?_)
      · have hk' : k < fs.length := by omega
        have b1 := v.fan_v hi hm
        have b2 := v.fan_v hk' hm
        have b3 := v.off_v hm
        have b4 := v.make_v hm
        have c1 := v.fan hi
        have c2 := v.fan hk'
        have c3 := v.mkl
        simp only [Int.toNat_natCast]
        have w1 : IntKind.wrap .i64 ((fs.getD i []).getD m 0 - (fs.getD k []).getD m 0) = (fs.getD i []).getD m 0 - (fs.getD k []).getD m 0 := wrapS (by omega) (by omega)
        have w2 : IntKind.wrap .i64 ((fs.getD k []).getD m 0 - (fs.getD i []).getD m 0) = (fs.getD k []).getD m 0 - (fs.getD i []).getD m 0 := wrapS (by omega) (by omega)
        have w3 : IntKind.wrap .i64 (2 * g.1.getD m 0) = 2 * g.1.getD m 0 := wrapS (by omega) (by omega)
        have w4 : IntKind.wrap .i64 (2 * g.2.1.getD m 0) = 2 * g.2.1.getD m 0 := wrapS (by omega) (by omega)
        obtain ⟨x1, x2, x3⟩ := mx_cases ((fs.getD i []).getD m 0 - (fs.getD k []).getD m 0) ((fs.getD k []).getD m 0 - (fs.getD i []).getD m 0)
        have w5 : IntKind.wrap .i64 (mxI ((fs.getD i []).getD m 0 - (fs.getD k []).getD m 0) ((fs.getD k []).getD m 0 - (fs.getD i []).getD m 0) + 2 * g.1.getD m 0) = mxI ((fs.getD i []).getD m 0 - (fs.getD k []).getD m 0) ((fs.getD k []).getD m 0 - (fs.getD i []).getD m 0) + 2 * g.1.getD m 0 := wrapS (by omega) (by omega)
        simp only [w1, w2, w3, w4, w5, hw3]
        refine ⟨by omega, by omega, by omega, by omega, by omega, by omega, by omega, by omega, by omega, by omega, by omega, by omega, cnd_iff.2 ⟨fun hc => ?_, fun hc => hI3 fun k' hk2 => ?_⟩⟩
        · have hc := of_decide_eq_true hc
          have : surelyR g fs = false := by
            unfold surelyR
            rw [List.all_eq_false]
            refine ⟨m, List.mem_range.2 hm, ?_⟩
            rw [Bool.not_eq_true, List.all_eq_false]
            refine ⟨i, List.mem_range.2 hi, ?_⟩
            rw [Bool.not_eq_true, List.all_eq_false]
            refine ⟨k, List.mem_range.2 hk, ?_⟩
            unfold sureOne
            simp only [decide_eq_true_eq]; omega
          rw [this] at h; exact h
        · rcases Nat.lt_succ_iff_lt_or_eq.1 hk2 with h6 | rfl
          · exact hgo3 k' h6
          · have hc := of_decide_eq_false hc
            unfold sureOne
            simp only [decide_eq_true_eq]; omega
      · rw [hw2]
        refine hI2 fun i' hi2 => ?_
        rcases Nat.lt_succ_iff_lt_or_eq.1 hi2 with h6 | rfl
        · exact hgo2 i' h6
        · rw [List.all_eq_true]; intro k hk; exact hgo3 k (List.mem_range.1 hk)
    · rw [hw]
      refine hI fun m' hm2 => ?_
      rcases Nat.lt_succ_iff_lt_or_eq.1 hm2 with h6 | rfl
      · exact hgo m' h6
      · rw [List.all_eq_true]; intro i hi; exact hgo2 i (List.mem_range.1 hi)
  · have : surelyR g fs = true := by
      unfold surelyR
      rw [List.all_eq_true]
      intro m hm
      exact hgo m (List.mem_range.1 hm)
    rw [this] at h; exact h
theorem p31 {g : Gauge} {fs : Fans} {wo : List Int} {Q : Bool → Prop} (h : f31_wp (g, fs, wo, ()) () Q) : V31 g fs wo Q := by
  obtain ⟨v, h⟩ := h
  simp only at v
  have h : Q (twinR g fs wo) := h
  have n4 := v.n4
  refine fun _ _ => cnd_iff.2 ⟨fun hc => ?_, fun hc => ?_⟩
  · have hc := of_decide_eq_true hc
    have : twinR g fs wo = true := by
      unfold twinR
      rw [Bool.or_eq_true]; exact .inl (by rw [decide_eq_true_eq]; omega)
    rw [this] at h; exact h
  have hc := of_decide_eq_false hc
  have he : twinR g fs wo = (List.range g.1.length).all fun m => (patR g fs m wo fs.length).2 := by
    unfold twinR
    have : decide (fs.length ≤ wo.length) = false := by rw [decide_eq_false_iff_not]; omega
    rw [this]; rfl
  rw [he] at h
  refine forUpGL (n := g.1.length) (fun m => ∀ m', m' < m → (patR g fs m' wo fs.length).2 = true) (fun m' hm => absurd hm (Nat.not_lt_zero _)) (fun m hm hgo hn1 I μ hI hw => ?_) (fun hgo => ?_)
  · refine ⟨⟨v, by simp only; omega, by simp only; omega⟩, ?_⟩
    simp only [Int.toNat_natCast]
    rw [hw]
    refine cnd_iff.2 ⟨fun hc => ?_, fun hc => hI fun m' hm2 => ?_⟩
    · have hc : (patR g fs m wo fs.length).2 = false := by simpa using hc
      have : ((List.range g.1.length).all fun m => (patR g fs m wo fs.length).2) = false := by
        rw [List.all_eq_false]
        exact ⟨m, List.mem_range.2 hm, by rw [hc]; simp⟩
      rw [this] at h; exact h
    · rcases Nat.lt_succ_iff_lt_or_eq.1 hm2 with h6 | rfl
      · exact hgo m' h6
      · simpa using hc
  · have : ((List.range g.1.length).all fun m => (patR g fs m wo fs.length).2) = true := by
      rw [List.all_eq_true]; intro m hm; exact hgo m (List.mem_range.1 hm)
    rw [this] at h; exact h
theorem setsR_len {B : Nat} (hB : B ≤ 5) : (setsR B).length ≤ 100000 := by
  have := flat_len (fun k => ofF B k []) 3125 (List.range (B + 1)) (fun n hn => Nat.le_trans (ofF_len B hB n []) (pow5 (by have := List.mem_range.1 hn; omega)))
  rw [List.length_range] at this
  have h2 : (B + 1) * 3125 ≤ 6 * 3125 := Nat.mul_le_mul_right _ (by omega)
  unfold setsR
  omega
theorem ofF_le (B : Nat) : ∀ (k : Nat) (s t : List Int), t ∈ ofF B k s → t.length = s.length + k
  | 0, s, t, h => by simp [ofF] at h; subst h; rfl
  | k + 1, s, t, h => by
    rw [ofF, List.mem_flatMap] at h
    obtain ⟨n, _, h⟩ := h
    rw [ofF_le B k _ t h]; simp; omega
theorem setsR_le {B : Nat} (hB : B ≤ 5) (s : List Int) (h : s ∈ setsR B) : s.length ≤ 5 := by
  unfold setsR at h
  rw [List.mem_flatMap] at h
  obtain ⟨k, hk, h⟩ := h
  have := List.mem_range.1 hk
  rw [ofF_le B k [] s h]; simp; omega
theorem sets82 {n : Nat} (hn : n ≤ 5) {K : List (List Int) → Prop} (h : ∀ R, R = setsR n → K R) : f82_wp (n : Int) () K := ⟨⟨by omega, by omega⟩, h _ rfl⟩
theorem take_foldl {α β : Type} (f : β → α → β) (b : β) (l : List α) {k : Nat} (hk : k < l.length) (d : α) : (l.take (k + 1)).foldl f b = f ((l.take k).foldl f b) (l.getD k d) := by
  rw [List.take_succ_eq_append_getElem hk, List.foldl_append, getD_lt hk]; rfl
theorem p33 {g : Gauge} {fs : Fans} {Q : List Int → Prop} (h : f33_wp (g, fs, ()) () Q) : V33 g fs Q := by
  obtain ⟨v, h⟩ := h
  simp only at v
  have h : Q (mostR g fs) := h
  have f5 := v.f5
  intro hl
  refine sets82 f5 fun R hRd => ?_
  have hR : R.length ≤ 100000 := hRd ▸ setsR_len f5
  have h : Q (R.foldl (mostRStep g fs) []) := by rw [hRd]; exact h
  refine forUpL (n := R.length) (fun k => (R.take k).foldl (mostRStep g fs) []) rfl (fun k hk I μ hI hw => ?_) (by rw [List.take_length]; exact h)
  rw [take_foldl _ _ R hk []] at hI
  rw [hw]
  simp only [Int.toNat_natCast]
  generalize (R.take k).foldl (mostRStep g fs) [] = b at *
  unfold mostRStep at hI
  refine ⟨by omega, by omega, cnd_iff.2 ⟨fun hc => ⟨by omega, by omega, othersF fs.length (R.getD k []), ⟨⟨by simp only; omega, by simp only; omega⟩, by simp⟩, twinR g fs (othersF fs.length (R.getD k [])), ⟨v, rfl⟩, cnd_iff.2 ⟨fun hc2 => ⟨by omega, by omega, ?_⟩, fun hc2 => ?_⟩⟩, fun hc => ?_⟩⟩
  · have hc := of_decide_eq_true hc
    rw [if_pos (by rw [hc2, Bool.and_true, decide_eq_true_eq]; omega)] at hI
    exact hI
  · rw [if_neg (by rw [hc2]; simp)] at hI
    exact hI
  · have hc := of_decide_eq_false hc
    rw [if_neg (by rw [Bool.and_eq_true, decide_eq_true_eq]; intro hh; have := hh.1; omega)] at hI
    exact hI
theorem p35 {g : Gauge} {fs : Fans} {Q : List Slip → Prop} (h : f35_wp (g, fs, ()) () Q) : V35 g fs Q := by
  obtain ⟨v, h⟩ := h
  simp only at v
  have h : Q (blameFR g.1.length fs.length (wrongQ g fs)) := h
  have f5 := v.f5
  have n4 := v.n4
  intro hl
  refine sets82 f5 fun R hRd => ?_
  have hR : R.length ≤ 100000 := hRd ▸ setsR_len f5
  have hlen : ∀ s, s ∈ R → s.length ≤ 5 := fun s hs => setsR_le f5 s (hRd ▸ hs)
  have h : Q ((List.range g.1.length).flatMap fun m => ((R.find? (wrongQ g fs m)).getD []).map fun f => ((m : Int), f)) := by rw [hRd]; exact h
  obtain ⟨bl, hbl⟩ : ∃ bl : Nat → List Slip, bl = fun m => ((R.find? (wrongQ g fs m)).getD []).map fun f => ((m : Int), f) := ⟨_, rfl⟩
  rw [← hbl] at h
  have step : ∀ m, (List.range (m + 1)).flatMap bl = (List.range m).flatMap bl ++ bl m := fun m => by rw [List.range_succ, List.flatMap_append]; simp
  have bl5 : ∀ m, (bl m).length ≤ 5 := by
    intro m
    rw [hbl]
    simp only [List.length_map]
    cases hf : R.find? (wrongQ g fs m) with
    | none => simp
    | some s => exact hlen s (List.mem_of_find?_eq_some hf)
  refine forUpL (n := g.1.length) (fun m => (List.range m).flatMap bl) rfl (fun m hm I μ hI hw => ?_) h
  rw [step] at hI
  have hol := flat_len bl 5 (List.range m) (fun n _ => bl5 n)
  rw [List.length_range] at hol
  generalize (List.range m).flatMap bl = out at *
  refine ⟨fun x l => ∃ j : Nat, j ≤ R.length ∧ x = j ∧ l = out ∧ ∀ j', j' < j → wrongQ g fs m (R.getD j' []) = false, fun x _ => (R.length - x).toNat, ⟨0, Nat.zero_le _, rfl, rfl, fun j' hj => absurd hj (Nat.not_lt_zero _)⟩, ?_⟩
  rintro x l ⟨j, hj, rfl, rfl, hno⟩ _
  have pre : ∀ {j : Nat}, j ≤ R.length → (∀ j', j' < j → wrongQ g fs m (R.getD j' []) = false) → (R.take j).find? (wrongQ g fs m) = none := by
    intro j hj hno
    rw [List.find?_eq_none]
    intro s hs
    obtain ⟨i, hi, rfl⟩ := List.mem_iff_getElem.1 hs
    rw [List.length_take] at hi
    have := hno i (by omega)
    rw [getD_lt (by omega)] at this
    rw [List.getElem_take, this]; simp
  refine cnd_iff.2 ⟨fun hc => ?_, fun hc => ?_⟩
  · have hc := of_decide_eq_true hc
    have hjl : j < R.length := by omega
    have hs5 : (R.getD j []).length ≤ 5 := hlen _ (getD_mem hjl)
    have found : wrongQ g fs m (R.getD j []) = true → bl m = (R.getD j []).map fun f => ((m : Int), f) := by
      intro hp
      rw [hbl]
      simp only
      have hsp : R = R.take j ++ R.getD j [] :: R.drop (j + 1) := by
        rw [getD_lt hjl, ← List.drop_eq_getElem_cons hjl, List.take_append_drop]
      have : R.find? (wrongQ g fs m) = some (R.getD j []) := by
        rw [hsp, List.find?_append, pre (by omega) hno, ← hsp, List.find?_cons, hp]; rfl
      rw [this]; rfl
    have go : wrongQ g fs m (R.getD j []) = true → (f87_wp ((m : Int), R.getD j [], ()) () fun r => (l.length + r.length) * 16 ≤ 140737488355328 ∧ I (IntKind.wrap .i64 ((m : Int) + 1)) (l ++ r) ∧ μ (IntKind.wrap .i64 ((m : Int) + 1)) (l ++ r) < μ m l) := by
      intro hp
      rw [found hp] at hI
      refine ⟨by simp only; omega, ?_⟩
      rw [hw]
      exact ⟨by simp only [List.length_map]; omega, hI⟩
    simp only [Int.toNat_natCast]
    refine ⟨by omega, by omega, ((patR g fs m (R.getD j []) fs.length).1, (patR g fs m (R.getD j []) fs.length).2, ()), ⟨⟨v, by simp only; omega, by simp only; omega⟩, by simp⟩, cnd_iff.2 ⟨fun h1 => ⟨by omega, by omega, go ?_⟩, fun h1 => ⟨by omega, by omega, fun _ _ => cnd_iff.2 ⟨fun h2 => ⟨by omega, by omega, go ?_⟩, fun h2 => ?_⟩⟩⟩⟩
    · unfold wrongQ; rw [show (patR g fs m (R.getD j []) fs.length).2 = true from h1]; rfl
    · have h2 : ((R.getD j []).length : Int) = fs.length := by simpa using h2
      unfold wrongQ; rw [Bool.or_eq_true]; exact .inr (by rw [decide_eq_true_eq]; omega)
    · have hwj : IntKind.wrap .i64 ((j : Int) + 1) = ((j + 1 : Nat) : Int) := by rw [wrapS (by omega) (by omega)]; push_cast; rfl
      have h2 : ((R.getD j []).length : Int) ≠ fs.length := by simpa using h2
      rw [hwj]
      refine ⟨⟨j + 1, by omega, rfl, by trivial, fun j' hj' => ?_⟩, by omega⟩
      rcases Nat.lt_succ_iff_lt_or_eq.1 hj' with h6 | rfl
      · exact hno j' h6
      · unfold wrongQ
        rw [show (patR g fs m (R.getD j' []) fs.length).2 = false from h1, Bool.false_or, decide_eq_false_iff_not]; omega
  · have hc := of_decide_eq_false hc
    have : j = R.length := by omega
    subst this
    have h0 := pre (Nat.le_refl _) hno
    rw [List.take_length] at h0
    have : bl m = [] := by rw [hbl]; simp only; rw [h0]; rfl
    rw [this, List.append_nil] at hI
    rw [hw]; exact hI
end Go.Proofs.Tw
set_option linter.unusedVariables false
set_option maxRecDepth 100000
namespace Go.Proofs.Tw
open Go Go.GX Go.Proofs
theorem all_mem {α : Type} {p q : α → Bool} : ∀ l : List α, (∀ x, x ∈ l → p x = q x) → l.all p = l.all q
  | [], _ => rfl
  | a :: l, h => by rw [List.all_cons, List.all_cons, h a (by simp), all_mem l (fun x hx => h x (by simp [hx]))]
theorem le5 {n : Nat} (h : n ≤ 5) : n = 0 ∨ n = 1 ∨ n = 2 ∨ n = 3 ∨ n = 4 ∨ n = 5 := by omega
theorem sets_eq {n : Nat} (h : n ≤ 5) : setsR n = setsF n := by
  rcases le5 h with rfl | rfl | rfl | rfl | rfl | rfl <;> decide +kernel

def setFacts (n : Nat) (s : List Int) : Bool :=
  (decide (s.length = n) == (List.range n).all fun i => hasF s i) && (decide (s = []) || (List.range n).any fun i => hasF s i) && decide ((othersF n s).length + s.length = n) && (List.range n).all fun i => hasF (othersF n s) i == !hasF s i
theorem set_facts {n : Nat} (h : n ≤ 5) : ∀ s, s ∈ setsF n → setFacts n s = true := by
  rw [← List.all_eq_true]
  rcases le5 h with rfl | rfl | rfl | rfl | rfl | rfl <;> decide +kernel
theorem patF_congr {g : Gauge} {fs : Fans} {m : Nat} {p q : Int → Bool} (h : ∀ i : Nat, i < fs.length → p i = q i) : patF g fs m p = patF g fs m q := by
  unfold patF
  have : ∀ (l : List Nat) (s : Span), (∀ i, i ∈ l → i < fs.length) → l.foldl (fun (s : Span) (f : Nat) => if p (f : Int) then meetF s (aroundF (trulyF g fs m f) (g.2.1.getD m 0)) else s) s = l.foldl (fun (s : Span) (f : Nat) => if q (f : Int) then meetF s (aroundF (trulyF g fs m f) (g.2.1.getD m 0)) else s) s := by
    intro l
    induction l with
    | nil => intro s _; rfl
    | cons i l ih =>
      intro s hl
      rw [List.foldl_cons, List.foldl_cons, h i (hl i (by simp)), ih _ (fun j hj => hl j (by simp [hj]))]
  exact this _ _ (fun i hi => List.mem_range.1 hi)
theorem patF_none {g : Gauge} {fs : Fans} {m : Nat} {p : Int → Bool} (h : ∀ i : Nat, i < fs.length → p i = false) : patF g fs m p = anything := by
  rw [patF_congr (q := fun _ => false) h]
  unfold patF
  have : ∀ (l : List Nat) (s : Span), l.foldl (fun (s : Span) (f : Nat) => if (fun _ => false) (f : Int) then meetF s (aroundF (trulyF g fs m f) (g.2.1.getD m 0)) else s) s = s := by
    intro l
    induction l with
    | nil => intro s; rfl
    | cons i l ih => intro s; rw [List.foldl_cons]; exact ih _
  exact this _ _
theorem twinR_nil {g : Gauge} {fs : Fans} (v : VB g fs) : twinR g fs [] = twinsF g fs fun _ => true := by
  unfold twinR twinsF
  by_cases h0 : fs.length = 0
  · have : decide (fs.length ≤ ([] : List Int).length) = true := by simp [h0]
    rw [this, Bool.true_or]
    symm
    rw [List.all_eq_true]
    intro m _
    rw [patF_none (fun i hi => by omega)]
    decide
  · have : decide (fs.length ≤ ([] : List Int).length) = false := by rw [decide_eq_false_iff_not, List.length_nil]; omega
    rw [this, Bool.false_or]
    refine all_mem _ ?_
    intro m hm
    exact (patR_eq v (List.mem_range.1 hm) [] (i := 0) (by omega) rfl).1
theorem facts_of {n : Nat} {s : List Int} (h : setFacts n s = true) : (s.length = n ↔ ∀ i : Nat, i < n → hasF s i = true) ∧ (s ≠ [] → ∃ i : Nat, i < n ∧ hasF s i = true) ∧ (othersF n s).length + s.length = n ∧ ∀ i : Nat, i < n → hasF (othersF n s) i = !hasF s i := by
  simp only [setFacts, Bool.and_eq_true, Bool.or_eq_true, beq_iff_eq, decide_eq_true_eq] at h
  obtain ⟨⟨⟨h1, h2⟩, h3⟩, h4⟩ := h
  refine ⟨?_, fun hne => ?_, h3, fun i hi => ?_⟩
  · constructor
    · intro he i hi
      have : decide (s.length = n) = true := by simp [he]
      rw [this] at h1
      exact List.all_eq_true.1 h1.symm i (List.mem_range.2 hi)
    · intro ha
      have : ((List.range n).all fun i => hasF s i) = true := List.all_eq_true.2 fun i hi => ha i (List.mem_range.1 hi)
      rw [this] at h1
      simpa using h1
  · rcases h2 with h2 | h2
    · exact absurd h2 hne
    · obtain ⟨i, hi, hh⟩ := List.any_eq_true.1 h2
      exact ⟨i, List.mem_range.1 hi, hh⟩
  · have := List.all_eq_true.1 h4 i (List.mem_range.2 hi)
    simpa using this
theorem twinR_set {g : Gauge} {fs : Fans} (v : VB g fs) {s : List Int} (hs : s ∈ setsF fs.length) (hne : s ≠ []) : twinR g fs (othersF fs.length s) = twinsF g fs (hasF s) := by
  obtain ⟨_, h2, h3, h4⟩ := facts_of (set_facts v.f5 s hs)
  obtain ⟨i, hi, hhi⟩ := h2 hne
  have hl : 0 < s.length := List.length_pos_iff.2 hne
  unfold twinR twinsF
  have : decide (fs.length ≤ (othersF fs.length s).length) = false := by rw [decide_eq_false_iff_not]; omega
  rw [this, Bool.false_or]
  refine all_mem _ ?_
  intro m hm
  rw [(patR_eq v (List.mem_range.1 hm) (othersF fs.length s) (i := i) hi (by rw [h4 i hi, hhi]; rfl)).1]
  rw [patF_congr (q := hasF s) (fun j hj => by rw [h4 j hj]; simp)]
theorem most_eq {g : Gauge} {fs : Fans} (v : VB g fs) : mostR g fs = mostF g fs := by
  unfold mostR mostF
  rw [sets_eq v.f5]
  have : ∀ (l : List (List Int)) (b : List Int), (∀ s, s ∈ l → s ∈ setsF fs.length) → l.foldl (mostRStep g fs) b = l.foldl (mostStep g fs) b := by
    intro l
    induction l with
    | nil => intro b _; rfl
    | cons s l ih =>
      intro b hl
      have e : mostRStep g fs b s = mostStep g fs b s := by
        unfold mostRStep mostStep
        by_cases hlt : b.length < s.length
        · rw [twinR_set v (hl s (by simp)) (by intro h; subst h; simp at hlt)]
        · simp [hlt]
      rw [List.foldl_cons, List.foldl_cons, e, ih _ (fun t ht => hl t (by simp [ht]))]
  exact this _ _ (fun s hs => hs)
theorem surely_eq {g : Gauge} {fs : Fans} (v : VB g fs) : surelyR g fs = surelyF g fs := by
  rw [Bool.eq_iff_iff]
  unfold surelyR surelyF surelyK sMs sRow
  simp only [List.all_eq_true, List.mem_range]
  constructor
  · intro h m hm x hx y hy
    unfold sOne trulyF
    have b := v.make_v hm
    rcases Nat.lt_trichotomy x y with hlt | rfl | hlt
    · have := h m hm y hy x hlt
      unfold sureOne at this
      rw [decide_eq_true_eq] at this
      obtain ⟨x1, x2, x3⟩ := mx_cases ((fs.getD y []).getD m 0 - (fs.getD x []).getD m 0) ((fs.getD x []).getD m 0 - (fs.getD y []).getD m 0)
      rw [Bool.or_eq_true]; exact .inr (by simp only [decide_eq_true_eq]; omega)
    · simp
    · have := h m hm x hx y hlt
      unfold sureOne at this
      rw [decide_eq_true_eq] at this
      obtain ⟨x1, x2, x3⟩ := mx_cases ((fs.getD x []).getD m 0 - (fs.getD y []).getD m 0) ((fs.getD y []).getD m 0 - (fs.getD x []).getD m 0)
      rw [Bool.or_eq_true]; exact .inr (by simp only [decide_eq_true_eq]; omega)
  · intro h m hm i hi k hk
    have h1 := h m hm i hi k (by omega)
    have h2 := h m hm k (by omega) i hi
    unfold sOne trulyF at h1 h2
    rw [Bool.or_eq_true, decide_eq_true_eq, beq_iff_eq] at h1 h2
    unfold sureOne
    rw [decide_eq_true_eq]
    obtain ⟨x1, x2, x3⟩ := mx_cases ((fs.getD i []).getD m 0 - (fs.getD k []).getD m 0) ((fs.getD k []).getD m 0 - (fs.getD i []).getD m 0)
    simp only at h1 h2
    omega
theorem wrong_set {g : Gauge} {fs : Fans} (v : VB g fs) {m : Nat} (hm : m < g.1.length) {s : List Int} (hs : s ∈ setsF fs.length) : wrongQ g fs m s = wrongP g fs m s := by
  obtain ⟨h1, _, _, _⟩ := facts_of (set_facts v.f5 s hs)
  unfold wrongQ wrongP
  by_cases he : s.length = fs.length
  · have ha := h1.1 he
    have : decide (s.length = fs.length) = true := by simp [he]
    rw [this, Bool.or_true, patF_none (fun i hi => by rw [ha i hi]; rfl)]
    decide
  · have : decide (s.length = fs.length) = false := by simp [he]
    rw [this, Bool.or_false]
    have hex : ∃ i : Nat, i < fs.length ∧ hasF s i = false := by
      refine Classical.byContradiction fun hno => he (h1.2 fun i hi => ?_)
      cases hq : hasF s i with
      | true => rfl
      | false => exact absurd ⟨i, hi, hq⟩ hno
    obtain ⟨i, hi, hh⟩ := hex
    exact (patR_eq v hm s hi hh).1
theorem find_congr {α : Type} {p q : α → Bool} : ∀ l : List α, (∀ x, x ∈ l → p x = q x) → l.find? p = l.find? q
  | [], _ => rfl
  | a :: l, h => by
    rw [List.find?_cons, List.find?_cons, h a (by simp), find_congr l (fun x hx => h x (by simp [hx]))]
theorem flatMap_congr' {α β : Type} {f h : α → List β} : ∀ l : List α, (∀ x, x ∈ l → f x = h x) → l.flatMap f = l.flatMap h
  | [], _ => rfl
  | a :: l, e => by rw [List.flatMap_cons, List.flatMap_cons, e a (by simp), flatMap_congr' l (fun x hx => e x (by simp [hx]))]
theorem blame_eq {n k : Nat} (hk : k ≤ 5) {p q : Nat → List Int → Bool} (h : ∀ m, m < n → ∀ s, s ∈ setsF k → p m s = q m s) : blameFR n k p = blameF n k q := by
  unfold blameFR blameF
  refine flatMap_congr' _ fun m hm => ?_
  unfold blameMR blameM
  rw [sets_eq hk, find_congr _ (fun s hs => h m (List.mem_range.1 hm) s hs)]
theorem wrong_eq {g : Gauge} {fs : Fans} (v : VB g fs) : blameFR g.1.length fs.length (wrongQ g fs) = wrongF g fs := blame_eq v.f5 fun m hm s hs => wrong_set v hm hs
end Go.Proofs.Tw
set_option linter.unusedVariables false
namespace Go.Proofs.Tw
open Go Go.GX Go.Proofs
theorem p4 {g : Gauge} {fs : Fans} {Q : Bool → Prop} (h : f4_wp (g, fs, ()) () Q) : V4 g fs Q := by
  have h : Q true := h
  show cnd (largeF g fs) (Q true) _
  refine cnd_iff.2 ⟨fun _ => h, fun hl => ?_⟩
  obtain ⟨l1, l2, l3, l4, l5⟩ := large_no hl
  refine ⟨⟨by simp only; omega, by simp only; omega, by simp only; omega⟩, ⟨by omega, fun f hf => by have := l5 f hf; omega⟩, ?_⟩
  show cnd (!decide (g = g)) _ (cnd (!decide (fs = fs)) _ (cnd ((twinsFn g fs).2.2 != checkF g fs) _ (cnd ((mostFn g fs).2 != checkF g fs) _ (cnd (checkF g fs != 0) (cnd (!(twinsFn g fs).1) (cnd (!(twinsFn g fs).2.1) ((mostFn g fs).1.length ≤ _ → cnd (((mostFn g fs).1.length : Int) == 0) (Q true) _) _) _) _))))
  refine cnd_f (by simp) (cnd_f (by simp) ?_)
  by_cases hc : checkF g fs = 0
  · have v := VB.of hc
    have e1 : twinsFn g fs = (surelyF g fs, twinsF g fs (fun _ => true), 0) := by unfold twinsFn; rw [if_neg (by simp [hc])]
    have e2 : mostFn g fs = (mostF g fs, 0) := by unfold mostFn; rw [if_neg (by simp [hc])]
    rw [e1, e2]
    refine cnd_f (by simp [hc]) (cnd_f (by simp [hc]) (cnd_f (by simp [hc]) ⟨v, ?_⟩))
    show cnd (surelyF g fs == surelyR g fs) _ _
    refine cnd_t (by rw [surely_eq v]; simp) ⟨v, ?_⟩
    show cnd (twinsF g fs (fun _ => true) == twinR g fs []) _ _
    refine cnd_t (by rw [twinR_nil v]; simp) ⟨v, ?_⟩
    show cnd (decide (mostF g fs = mostR g fs)) _ _
    exact cnd_t (by rw [most_eq v]; simp) h
  · have e1 : twinsFn g fs = (false, false, checkF g fs) := by unfold twinsFn; rw [if_pos hc]
    have e2 : mostFn g fs = ([], checkF g fs) := by unfold mostFn; rw [if_pos hc]
    rw [e1, e2]
    exact cnd_f (by simp) (cnd_f (by simp) (cnd_t (by simpa using hc) (cnd_t rfl (cnd_t rfl fun _ => cnd_t rfl h))))
theorem p5 {g : Gauge} {fs : Fans} {Q : Bool → Prop} (h : f5_wp (g, fs, ()) () Q) : V5 g fs Q := by
  have h : Q true := h
  show cnd (largeF g fs) (Q true) _
  refine cnd_iff.2 ⟨fun _ => h, fun hl => ?_⟩
  obtain ⟨l1, l2, l3, l4, l5⟩ := large_no hl
  refine ⟨⟨by simp only; omega, by simp only; omega, by simp only; omega⟩, ⟨by omega, fun f hf => by have := l5 f hf; omega⟩, ?_⟩
  show cnd (!decide (g = g)) _ (cnd (!decide (fs = fs)) _ (cnd (checkF g fs == 0) (VB g fs ∧ ((blameFR g.1.length fs.length (wrongQ g fs)).length ≤ _ → cnd (((blameFR g.1.length fs.length (wrongQ g fs)).length : Int) == 0) (cnd ((wrongFn g fs).2 == 6) (cnd (decide ((wrongFn g fs).1 = blameFR g.1.length fs.length (wrongQ g fs))) (Q true) _) _) (cnd ((wrongFn g fs).2 == checkF g fs) (cnd (decide ((wrongFn g fs).1 = blameFR g.1.length fs.length (wrongQ g fs))) (Q true) _) _)))
    (cnd ((wrongFn g fs).2 == checkF g fs) (cnd (decide ((wrongFn g fs).1 = [])) (Q true) _) _)))
  refine cnd_f (by simp) (cnd_f (by simp) (cnd_iff.2 ⟨fun hc => ?_, fun hc => ?_⟩))
  · have hc : checkF g fs = 0 := by simpa using hc
    have v := VB.of hc
    refine ⟨v, fun _ => ?_⟩
    rw [wrong_eq v]
    refine cnd_iff.2 ⟨fun h0 => ?_, fun h0 => ?_⟩
    · have h0 : (wrongF g fs).length = 0 := by have : ((wrongF g fs).length : Int) = 0 := by simpa using h0
                                               omega
      have e : wrongFn g fs = ([], 6) := by unfold wrongFn; rw [if_neg (by simp [hc]), if_pos h0]
      rw [e]
      exact cnd_t rfl (cnd_t (by simp [List.eq_nil_of_length_eq_zero h0]) h)
    · have h0 : ¬ (wrongF g fs).length = 0 := by have : ¬ ((wrongF g fs).length : Int) = 0 := by simpa using h0
                                                 omega
      have e : wrongFn g fs = (wrongF g fs, 0) := by unfold wrongFn; rw [if_neg (by simp [hc]), if_neg h0]
      rw [e]
      exact cnd_t (by simp [hc]) (cnd_t (by simp) h)
  · have hc : checkF g fs ≠ 0 := by simpa using hc
    have e : wrongFn g fs = ([], checkF g fs) := by unfold wrongFn; rw [if_pos hc]
    rw [e]
    exact cnd_t (by simp) (cnd_t (by simp) h)
end Go.Proofs.Tw
set_option maxRecDepth 100000
namespace Go.Proofs.Tw
open Go Go.GX Go.Proofs
theorem ok115 : ∀ k, CallsOK Tryd.prog (assoc glT) 115 (f115_ct k)
  | 0 => callsOK_mk [] st_ok mk_ok in_ok AllOK.nil f115_an Tryd.func115 (by kernel_rfl) (by kernel_rfl) (f115_ct 0) fun ⟨b, m, s, _⟩ _ Q h => (V115zE b m s Q).mp (p115z h)
  | k + 1 => callsOK_mk [] st_ok mk_ok in_ok (AllOK.cons (ok115 k) AllOK.nil) f115_an Tryd.func115 (by kernel_rfl) (by kernel_rfl) (f115_ct (k + 1)) fun ⟨b, m, s, _⟩ _ Q h => (V115E k b m s Q).mp (p115 h)
theorem ok115a : CallsOK Tryd.prog (assoc glT) 115 f115a_ct where
  enters := (ok115 0).enters
  calls := fun X W x y vs cs hX hg hv hc Q hQ => let ⟨k, hk⟩ := hQ; (ok115 k).calls X W x y vs cs hX hg hv hc Q hk
end Go.Proofs.Tw
set_option maxRecDepth 100000
namespace Go.Proofs.Tw
open Go Go.GX Go.Proofs

theorem ok82 : CallsOK Tryd.prog (assoc glT) 82 f82_ct :=
  callsOK_mk [] st_ok mk_ok in_ok (AllOK.cons ok115a AllOK.nil) f82_an Tryd.func82 (by kernel_rfl) (by kernel_rfl) f82_ct fun n _ Q h => (v82 n Q).mp (p82 h)
theorem ok83 : CallsOK Tryd.prog (assoc glT) 83 f83_ct :=
  callsOK_mk [] st_ok mk_ok in_ok (AllOK.cons ok75 AllOK.nil) f83_an Tryd.func83 (by kernel_rfl) (by kernel_rfl) f83_ct fun ⟨n, l, _⟩ _ Q h => (v83 n l Q).mp (p83 h)
theorem ok87 : CallsOK Tryd.prog (assoc glT) 87 f87_ct :=
  callsOK_mk [] st_ok mk_ok in_ok AllOK.nil f87_an Tryd.func87 (by kernel_rfl) (by kernel_rfl) f87_ct fun ⟨m, l, _⟩ _ Q h => (v87 m l Q).mp (p87 h)
theorem ok30 : CallsOK Tryd.prog (assoc glT) 30 f30_ct :=
  callsOK_mk [] st_ok mk_ok in_ok AllOK.nil f30_an Tryd.func30 (by kernel_rfl) (by kernel_rfl) f30_ct fun ⟨g, fs, _⟩ _ Q h => (v30 g fs Q).mp (p30 h)
theorem ok31 : CallsOK Tryd.prog (assoc glT) 31 f31_ct :=
  callsOK_mk [] st_ok mk_ok in_ok (AllOK.cons ok26 AllOK.nil) f31_an Tryd.func31 (by kernel_rfl) (by kernel_rfl) f31_ct fun ⟨g, fs, wo, _⟩ _ Q h => (v31 g fs wo Q).mp (p31 h)
theorem ok33 : CallsOK Tryd.prog (assoc glT) 33 f33_ct :=
  callsOK_mk [5000103] st_ok mk_ok in_ok (AllOK.cons ok82 (AllOK.cons ok83 (AllOK.cons ok31 AllOK.nil))) f33_an Tryd.func33 (by kernel_rfl) (by kernel_rfl) f33_ct fun ⟨g, fs, _⟩ _ Q h => (v33 g fs Q).mp (p33 h)
theorem ok35 : CallsOK Tryd.prog (assoc glT) 35 f35_ct :=
  callsOK_mk [] st_ok mk_ok in_ok (AllOK.cons ok82 (AllOK.cons ok26 (AllOK.cons ok87 AllOK.nil))) f35_an Tryd.func35 (by kernel_rfl) (by kernel_rfl) f35_ct fun ⟨g, fs, _⟩ _ Q h => (v35 g fs Q).mp (p35 h)
theorem ok4 : CallsOK Tryd.prog (assoc glT) 4 f4_ct :=
  callsOK_mk [] st_ok mk_ok in_ok (AllOK.cons ok17 (AllOK.cons ok18 (AllOK.cons ok19 (AllOK.cons ok20 (AllOK.cons ok28 (AllOK.cons ok29 (AllOK.cons ok23 (AllOK.cons ok24 (AllOK.cons ok25 (AllOK.cons ok30 (AllOK.cons ok31 (AllOK.cons ok33 (AllOK.cons ok32 AllOK.nil))))))))))))) no_an Tryd.func4 (by kernel_rfl) (by kernel_rfl) f4_ct fun ⟨g, fs, _⟩ _ Q h => (v4 g fs Q).mp (p4 h)
theorem ok5 : CallsOK Tryd.prog (assoc glT) 5 f5_ct :=
  callsOK_mk [] st_ok mk_ok in_ok (AllOK.cons ok17 (AllOK.cons ok18 (AllOK.cons ok19 (AllOK.cons ok20 (AllOK.cons ok34 (AllOK.cons ok24 (AllOK.cons ok25 (AllOK.cons ok23 (AllOK.cons ok35 (AllOK.cons ok36 AllOK.nil)))))))))) no_an Tryd.func5 (by kernel_rfl) (by kernel_rfl) f5_ct fun ⟨g, fs, _⟩ _ Q h => (v5 g fs Q).mp (p5 h)
end Go.Proofs.Tw
namespace Go.Proofs.Tw
open Go Go.GX Go.Proofs
def offW (g : Gauge) (m : Nat) : Nat := (2 * g.1.getD m 0 + 1).toNat
def isR (g : Gauge) (a b : List Int) (m i j : Nat) : Bool := inB (g.2.2.getD m (0, 0)).1 (g.2.2.getD m (0, 0)).2 (b.getD m 0 + ((j : Int) - g.1.getD m 0) - a.getD m 0 - ((i : Int) - g.1.getD m 0))
def evT (g : Gauge) (a b : List Int) (m n : Nat) : Bool := (List.range n).all fun i => (List.range (offW g m)).all fun j => isR g a b m i j
def smT (g : Gauge) (a b : List Int) (m n : Nat) : Bool := (List.range n).any fun i => (List.range (offW g m)).any fun j => isR g a b m i j
def f59_wp : Gauge × List Int × List Int × Unit → Unit → (Bool × Bool × Unit → Prop) → Prop := fun a _ Q => VB a.1 [a.2.1, a.2.2.1] ∧ Q ((List.range a.1.1.length).all fun m => evT a.1 a.2.1 a.2.2.1 m (offW a.1 m), (List.range a.1.1.length).all fun m => smT a.1 a.2.1 a.2.2.1 m (offW a.1 m), ())
def f59_ct : Ct := ⟨arg3 kG kFan kFan, .unit, res2 .bool .bool, f59_wp, false, false⟩
def f59_an : Nat → Items
  | 0 => [.t 10 kI, .t 8 .bool, .t 9 .bool]
  | 2 => [.t 13 kI, .t 11 .bool, .t 12 .bool]
  | 4 => [.t 14 kI, .t 11 .bool, .t 12 .bool]
  | _ => []
def f14_wp : Gauge × List Int × List Int × Unit → Unit → (Bool → Prop) → Prop := fun _ _ Q => Q true
def f14_ct : Ct := ⟨arg3 kG kFan kFan, .unit, .bool, f14_wp, false, false⟩
end Go.Proofs.Tw
set_option linter.unusedVariables false
set_option maxRecDepth 100000
namespace Go.Proofs.Tw
open Go Go.GX Go.Proofs

def V59 (g : List Int × List Int × List (Int × Int)) (a : List Int) (b : List Int) (Q : Bool × Bool × Unit → Prop) : Prop := ∃ (I : Int → Bool → Bool → Prop), ∃ (μ : Int → Bool → Bool → Nat), I (0 : Int) true true ∧ ∀ (x : Int) (x_1 x_2 : Bool), I x x_1 x_2 → List.length (Prod.fst g) ≤ (9223372036854775807 : Nat) → cnd (decide (x < (↑(List.length (Prod.fst g)) : Int))) ((0 : Int) ≤ x ∧ x < (↑(List.length (Prod.fst g)) : Int) ∧ ∃ (I_1 : Int → Bool → Bool → Prop), ∃ (μ_1 : Int → Bool → Bool → Nat), I_1 (IntKind.wrap IntKind.i64 (Int.sub (0 : Int) (List.getD (Prod.fst g) (Int.toNat x) (0 : Int)))) true false ∧ ∀ (x_3 : Int) (x_4 x_5 : Bool), I_1 x_3 x_4 x_5 → (0 : Int) ≤ x ∧ x < (↑(List.length (Prod.fst g)) : Int) ∧ cnd (decide (x_3 ≤ List.getD (Prod.fst g) (Int.toNat x) (0 : Int))) ((0 : Int) ≤ x ∧ x < (↑(List.length (Prod.fst g)) : Int) ∧ ∃ (I : Int → Bool → Bool → Prop), ∃ (μ : Int → Bool → Bool → Nat), I (IntKind.wrap IntKind.i64 (Int.sub (0 : Int) (List.getD (Prod.fst g) (Int.toNat x) (0 : Int)))) x_4 x_5 ∧ ∀ (x_6 : Int) (x_7 x_8 : Bool), I x_6 x_7 x_8 → (0 : Int) ≤ x ∧ x < (↑(List.length (Prod.fst g)) : Int) ∧ cnd (decide (x_6 ≤ List.getD (Prod.fst g) (Int.toNat x) (0 : Int))) ((0 : Int) ≤ x ∧ x < (↑(List.length b) : Int) ∧ (0 : Int) ≤ x ∧ x < (↑(List.length a) : Int) ∧ (0 : Int) ≤ x ∧ x < (↑(List.length (Prod.snd (Prod.snd g))) : Int) ∧ (0 : Int) ≤ x ∧ x < (↑(List.length (Prod.snd (Prod.snd g))) : Int) ∧ ∃ (r : Bool), (f74_wp (IntKind.wrap IntKind.i64 (IntKind.wrap IntKind.i64 (IntKind.wrap IntKind.i64 (List.getD b (Int.toNat x) (0 : Int) + x_6) - List.getD a (Int.toNat x) (0 : Int)) - x_3), Prod.fst (List.getD (Prod.snd (Prod.snd g)) (Int.toNat x) ((0 : Int), (0 : Int))), Prod.snd (List.getD (Prod.snd (Prod.snd g)) (Int.toNat x) ((0 : Int), (0 : Int))), ()) () fun (r' : Bool) ↦ r' = r) ∧ cnd x_7 (cnd x_8 (I (IntKind.wrap IntKind.i64 (x_6 + (1 : Int))) r true ∧ μ (IntKind.wrap IntKind.i64 (x_6 + (1 : Int))) r true < μ x_6 x_7 x_8) (I (IntKind.wrap IntKind.i64 (x_6 + (1 : Int))) r r ∧ μ (IntKind.wrap IntKind.i64 (x_6 + (1 : Int))) r r < μ x_6 x_7 x_8)) (cnd x_8 (I (IntKind.wrap IntKind.i64 (x_6 + (1 : Int))) false true ∧ μ (IntKind.wrap IntKind.i64 (x_6 + (1 : Int))) false true < μ x_6 x_7 x_8) (I (IntKind.wrap IntKind.i64 (x_6 + (1 : Int))) false r ∧ μ (IntKind.wrap IntKind.i64 (x_6 + (1 : Int))) false r < μ x_6 x_7 x_8))) (I_1 (IntKind.wrap IntKind.i64 (x_3 + (1 : Int))) x_7 x_8 ∧ μ_1 (IntKind.wrap IntKind.i64 (x_3 + (1 : Int))) x_7 x_8 < μ_1 x_3 x_4 x_5)) (cnd x_1 (cnd x_2 (I (IntKind.wrap IntKind.i64 (x + (1 : Int))) x_4 x_5 ∧ μ (IntKind.wrap IntKind.i64 (x + (1 : Int))) x_4 x_5 < μ x x_1 x_2) (I (IntKind.wrap IntKind.i64 (x + (1 : Int))) x_4 false ∧ μ (IntKind.wrap IntKind.i64 (x + (1 : Int))) x_4 false < μ x x_1 x_2)) (cnd x_2 (I (IntKind.wrap IntKind.i64 (x + (1 : Int))) false x_5 ∧ μ (IntKind.wrap IntKind.i64 (x + (1 : Int))) false x_5 < μ x x_1 x_2) (I (IntKind.wrap IntKind.i64 (x + (1 : Int))) false false ∧ μ (IntKind.wrap IntKind.i64 (x + (1 : Int))) false false < μ x x_1 x_2)))) (Q (x_1, x_2, ()))
theorem v59 (g : List Int × List Int × List (Int × Int)) (a : List Int) (b : List Int) (Q : Bool × Bool × Unit → Prop) : V59 g a b Q = vcFunc (S0 [(74, f74_ct)] []) f59_ct.own f59_ct.fresh f59_an Tryd.f59 (bodyOf Tryd.f59) f59_ct.A f59_ct.C f59_ct.R (g, a, b, ()) () Q := by kernel_rfl

def V14 (g : List Int × List Int × List (Int × Int)) (x : List Int) (y : List Int) (Q : Bool → Prop) : Prop := f17_wp ((Prod.fst g, Prod.fst (Prod.snd g), Prod.snd (Prod.snd g)), x :: y :: ([] : List (List Int)), ()) () fun (r : Bool) ↦ cnd r (f18_wp () () fun (r : Bool) ↦ Q r) (f19_wp (Prod.fst g, Prod.fst (Prod.snd g), Prod.snd (Prod.snd g)) () fun (r : List Int × List Int × List (Int × Int)) ↦ f20_wp (x :: y :: ([] : List (List Int))) () fun (r_1 : List (List Int)) ↦ (0 : Int) ≤ (0 : Int) ∧ (0 : Int) < (↑(List.length r_1) : Int) ∧ (0 : Int) ≤ (1 : Int) ∧ (1 : Int) < (↑(List.length r_1) : Int) ∧ ∃ (r_2 : Bool × Bool × Int × Unit), (f58_wp ((Prod.fst r, Prod.fst (Prod.snd r), Prod.snd (Prod.snd r)), List.getD r_1 (Int.toNat (0 : Int)) ([] : List Int), List.getD r_1 (Int.toNat (1 : Int)) ([] : List Int), ()) () fun (r' : Bool × Bool × Int × Unit) ↦ r' = r_2) ∧ f23_wp ((Prod.fst g, Prod.fst (Prod.snd g), Prod.snd (Prod.snd g)), x :: y :: ([] : List (List Int)), ()) () fun (r_3 : Int) ↦ f24_wp ((Prod.fst r, Prod.fst (Prod.snd r), Prod.snd (Prod.snd r)), (Prod.fst g, Prod.fst (Prod.snd g), Prod.snd (Prod.snd g)), ()) () fun (r : Bool) ↦ cnd (!r) (Q false) (f25_wp (r_1, x :: y :: ([] : List (List Int)), ()) () fun (r : Bool) ↦ cnd (!r) (Q false) (cnd (Prod.fst (Prod.snd (Prod.snd r_2)) != r_3) (Q false) (cnd (r_3 != (0 : Int)) (cnd (!Prod.fst r_2) (cnd (!Prod.fst (Prod.snd r_2)) (f18_wp () () fun (r : Bool) ↦ Q r) (Q false)) (Q false)) (f59_wp ((Prod.fst g, Prod.fst (Prod.snd g), Prod.snd (Prod.snd g)), x, y, ()) () fun (r : Bool × Bool × Unit) ↦ cnd (Prod.fst r_2 == Prod.fst r) (cnd (Prod.fst (Prod.snd r_2) == Prod.fst (Prod.snd r)) (f18_wp () () fun (r : Bool) ↦ Q r) (Q false)) (Q false))))))
theorem v14 (g : List Int × List Int × List (Int × Int)) (x : List Int) (y : List Int) (Q : Bool → Prop) : V14 g x y Q = vcFunc (S0 [(17, f17_ct), (18, f18_ct), (19, f19_ct), (20, f20_ct), (58, f58_ct), (23, f23_ct), (24, f24_ct), (25, f25_ct), (59, f59_ct)] []) f14_ct.own f14_ct.fresh no_an Tryd.f14 (bodyOf Tryd.f14) f14_ct.A f14_ct.C f14_ct.R (g, x, y, ()) () Q := by kernel_rfl

end Go.Proofs.Tw
set_option linter.unusedVariables false
namespace Go.Proofs.Tw
open Go Go.GX Go.Proofs
theorem any_succ (p : Nat → Bool) (k : Nat) : (List.range (k + 1)).any p = ((List.range k).any p || p k) := by simp [List.range_succ]
theorem p59 {g : Gauge} {a b : List Int} {Q : Bool × Bool × Unit → Prop} (h : f59_wp (g, a, b, ()) () Q) : V59 g a b Q := by
  obtain ⟨v, h⟩ := h
  simp only at v
  have h : Q ((List.range g.1.length).all fun m => evT g a b m (offW g m), (List.range g.1.length).all fun m => smT g a b m (offW g m), ()) := h
  have n4 := v.n4
  refine forUp2L (σ := Bool) (τ := Bool) (n := g.1.length) (fun k => (List.range k).all fun m => evT g a b m (offW g m)) (fun k => (List.range k).all fun m => smT g a b m (offW g m)) rfl rfl (fun m hm I μ hI hw => ?_) h
  have b1 := v.fan_v (f := 0) (m := m) (by simp) hm
  have b2 := v.fan_v (f := 1) (m := m) (by simp) hm
  have b1 : 0 ≤ a.getD m 0 ∧ a.getD m 0 ≤ 10000 := b1
  have b2 : 0 ≤ b.getD m 0 ∧ b.getD m 0 ≤ 10000 := b2
  have b3 := v.off_v hm
  have la : a.length = g.1.length := v.fl a (by simp)
  have lb : b.length = g.1.length := v.fl b (by simp)
  have lc := v.cp
  rw [all_succ, all_succ] at hI
  rw [hw]
  simp only [Int.toNat_natCast]
  obtain ⟨o, ho⟩ : ∃ o, o = g.1.getD m 0 := ⟨_, rfl⟩
  have hW : (offW g m : Int) = 2 * o + 1 := by unfold offW; rw [← ho]; omega
  have w0 : IntKind.wrap .i64 (Int.sub 0 o) = ((0 : Nat) : Int) - o := by show IntKind.wrap .i64 (0 - o) = _; rw [wrapS (by omega) (by omega)]; simp
  simp only [← ho, w0]
  refine ⟨by omega, by omega, fun x e s => ∃ i : Nat, i ≤ offW g m ∧ x = (i : Int) - o ∧ e = evT g a b m i ∧ s = smT g a b m i, fun x _ _ => (o + 1 - x).toNat, ⟨0, by omega, rfl, rfl, rfl⟩, ?_⟩
  rintro x e s ⟨i, hi, rfl, rfl, rfl⟩
  refine ⟨by omega, by omega, cnd_iff.2 ⟨fun hc => ⟨by omega, by omega, ?_⟩, fun hc => ?_⟩⟩
  · have hc := of_decide_eq_true hc
    refine ⟨fun x e s => ∃ j : Nat, j ≤ offW g m ∧ x = (j : Int) - o ∧ e = (evT g a b m i && (List.range j).all (isR g a b m i)) ∧ s = (smT g a b m i || (List.range j).any (isR g a b m i)), fun x _ _ => (o + 1 - x).toNat, ⟨0, by omega, rfl, by simp, by simp⟩, ?_⟩
    rintro x e s ⟨j, hj, rfl, rfl, rfl⟩
    refine ⟨by omega, by omega, cnd_iff.2 ⟨fun hc2 => ?_, fun hc2 => ?_⟩⟩
    · have hc2 := of_decide_eq_true hc2
      have w1 : IntKind.wrap .i64 (b.getD m 0 + ((j : Int) - o)) = b.getD m 0 + ((j : Int) - o) := wrapS (by omega) (by omega)
      have w2 : IntKind.wrap .i64 (b.getD m 0 + ((j : Int) - o) - a.getD m 0) = b.getD m 0 + ((j : Int) - o) - a.getD m 0 := wrapS (by omega) (by omega)
      have w3 : IntKind.wrap .i64 (b.getD m 0 + ((j : Int) - o) - a.getD m 0 - ((i : Int) - o)) = b.getD m 0 + ((j : Int) - o) - a.getD m 0 - ((i : Int) - o) := wrapS (by omega) (by omega)
      have w4 : IntKind.wrap .i64 ((j : Int) - o + 1) = ((j + 1 : Nat) : Int) - o := by rw [wrapS (by omega) (by omega)]; push_cast; omega
      refine ⟨by omega, by omega, by omega, by omega, by omega, by omega, by omega, by omega, isR g a b m i j, ?_, ?_⟩
      · show inB _ _ _ = isR g a b m i j
        rw [w1, w2, w3]
        unfold isR; rw [← ho]
      · have e1 := all_succ (isR g a b m i) j
        have e2 := any_succ (isR g a b m i) j
        have key : ∀ e' s', e' = ((evT g a b m i && (List.range j).all (isR g a b m i)) && isR g a b m i j) → s' = ((smT g a b m i || (List.range j).any (isR g a b m i)) || isR g a b m i j) →
            (∃ k : Nat, k ≤ offW g m ∧ IntKind.wrap .i64 ((j : Int) - o + 1) = (k : Int) - o ∧ e' = (evT g a b m i && (List.range k).all (isR g a b m i)) ∧ s' = (smT g a b m i || (List.range k).any (isR g a b m i))) ∧ (o + 1 - IntKind.wrap .i64 ((j : Int) - o + 1)).toNat < (o + 1 - ((j : Int) - o)).toNat := by
          rintro _ _ rfl rfl
          rw [w4]
          exact ⟨⟨j + 1, by omega, rfl, by rw [e1, Bool.and_assoc], by rw [e2, Bool.or_assoc]⟩, by omega⟩
        revert key
        generalize (evT g a b m i && (List.range j).all (isR g a b m i)) = E
        generalize (smT g a b m i || (List.range j).any (isR g a b m i)) = T
        generalize isR g a b m i j = r
        intro key
        cases E <;> cases T <;> exact key _ _ (by simp) (by simp)
    · have hc2 := of_decide_eq_false hc2
      have hjW : j = offW g m := by omega
      have w4 : IntKind.wrap .i64 ((i : Int) - o + 1) = ((i + 1 : Nat) : Int) - o := by rw [wrapS (by omega) (by omega)]; push_cast; omega
      rw [w4]
      refine ⟨⟨i + 1, by omega, rfl, ?_, ?_⟩, by show (o + 1 - (((i + 1 : Nat) : Int) - o)).toNat < (o + 1 - ((i : Int) - o)).toNat; omega⟩
      · unfold evT; rw [all_succ, hjW]
      · unfold smT; rw [any_succ, hjW]
  · have hc := of_decide_eq_false hc
    have hiW : i = offW g m := by omega
    subst hiW
    revert hI
    generalize ((List.range m).all fun m => evT g a b m (offW g m)) = E
    generalize ((List.range m).all fun m => smT g a b m (offW g m)) = T
    generalize evT g a b m (offW g m) = e
    generalize smT g a b m (offW g m) = s
    intro hI
    cases E <;> cases T <;> simpa [cnd] using hI

theorem copy_ev {g : Gauge} {a b : List Int} (v : VB g [a, b]) {m : Nat} (hm : m < g.1.length) : evT g a b m (offW g m) = cSure g [a, b] m := by
  have b3 := v.off_v hm
  have hW : (offW g m : Int) = 2 * g.1.getD m 0 + 1 := by unfold offW; omega
  rw [Bool.eq_iff_iff]
  unfold evT isR cSure leastF mostlyF trulyF inB
  simp only [List.all_eq_true, List.mem_range, Bool.and_eq_true, decide_eq_true_eq, List.getD_cons_zero, List.getD_cons_succ]
  constructor
  · intro h
    have h1 := h (offW g m - 1) (by omega) 0 (by omega)
    have h2 := h 0 (by omega) (offW g m - 1) (by omega)
    omega
  · intro h i hi j hj
    omega
theorem copy_sm {g : Gauge} {a b : List Int} (v : VB g [a, b]) {m : Nat} (hm : m < g.1.length) : smT g a b m (offW g m) = cMay g [a, b] m := by
  have b3 := v.off_v hm
  have hc := v.copy_v hm
  have hW : (offW g m : Int) = 2 * g.1.getD m 0 + 1 := by unfold offW; omega
  rw [Bool.eq_iff_iff]
  unfold smT isR cMay leastF mostlyF trulyF inB
  simp only [List.any_eq_true, List.mem_range, Bool.and_eq_true, decide_eq_true_eq, List.getD_cons_zero, List.getD_cons_succ]
  constructor
  · rintro ⟨i, hi, j, hj, h⟩
    omega
  · rintro ⟨h1, h2⟩

    by_cases hd : (g.2.2.getD m (0, 0)).1 ≤ b.getD m 0 - a.getD m 0
    · by_cases hd2 : b.getD m 0 - a.getD m 0 ≤ (g.2.2.getD m (0, 0)).2
      · exact ⟨0, by omega, 0, by omega, by omega⟩
      · exact ⟨(b.getD m 0 - a.getD m 0 - (g.2.2.getD m (0, 0)).2).toNat, by omega, 0, by omega, by omega⟩
    · exact ⟨0, by omega, ((g.2.2.getD m (0, 0)).1 - (b.getD m 0 - a.getD m 0)).toNat, by omega, by omega⟩
theorem p14 {g : Gauge} {x y : List Int} {Q : Bool → Prop} (h : f14_wp (g, x, y, ()) () Q) : V14 g x y Q := by
  have h : Q true := h
  show cnd (largeF g [x, y]) (Q true) _
  refine cnd_iff.2 ⟨fun _ => h, fun hl => ?_⟩
  obtain ⟨l1, l2, l3, l4, l5⟩ := large_no hl
  refine ⟨⟨by simp only; omega, by simp only; omega, by simp only; omega⟩, ⟨by simp, fun f hf => by have := l5 f hf; omega⟩, ?_⟩
  refine ⟨by omega, by simp, by omega, by simp, ((copyFn g [x, y]).1, (copyFn g [x, y]).2.1, (copyFn g [x, y]).2.2, ()), rfl, ?_⟩
  show cnd (!decide (g = g)) _ (cnd (!decide ([x, y] = [x, y])) _ (cnd ((copyFn g [x, y]).2.2 != checkF g [x, y]) _ (cnd (checkF g [x, y] != 0) (cnd (!(copyFn g [x, y]).1) (cnd (!(copyFn g [x, y]).2.1) (Q true) _) _) _)))
  refine cnd_f (by simp) (cnd_f (by simp) ?_)
  by_cases hc : checkF g [x, y] = 0
  · have v := VB.of hc
    have e : copyFn g [x, y] = ((List.range g.1.length).all (cSure g [x, y]), (List.range g.1.length).all (cMay g [x, y]), 0) := by unfold copyFn; rw [if_neg (by simp [hc])]
    rw [e]
    refine cnd_f (by simp [hc]) (cnd_f (by simp [hc]) ⟨v, ?_⟩)
    show cnd ((List.range g.1.length).all (cSure g [x, y]) == (List.range g.1.length).all fun m => evT g x y m (offW g m)) (cnd ((List.range g.1.length).all (cMay g [x, y]) == (List.range g.1.length).all fun m => smT g x y m (offW g m)) (Q true) _) _
    refine cnd_t ?_ (cnd_t ?_ h)
    · rw [all_mem (List.range g.1.length) (fun m hm => copy_ev v (List.mem_range.1 hm))]; simp
    · rw [all_mem (List.range g.1.length) (fun m hm => copy_sm v (List.mem_range.1 hm))]; simp
  · have e : copyFn g [x, y] = (false, false, checkF g [x, y]) := by unfold copyFn; rw [if_pos hc]
    rw [e]
    exact cnd_f (by simp) (cnd_t (by simpa using hc) (cnd_t rfl (cnd_t rfl h)))
end Go.Proofs.Tw
set_option maxRecDepth 100000
namespace Go.Proofs.Tw
open Go Go.GX Go.Proofs

theorem ok59 : CallsOK Tryd.prog (assoc glT) 59 f59_ct :=
  callsOK_mk [] st_ok mk_ok in_ok (AllOK.cons ok74 AllOK.nil) f59_an Tryd.func59 (by kernel_rfl) (by kernel_rfl) f59_ct fun ⟨g, a, b, _⟩ _ Q h => (v59 g a b Q).mp (p59 h)
theorem ok14 : CallsOK Tryd.prog (assoc glT) 14 f14_ct :=
  callsOK_mk [] st_ok mk_ok in_ok (AllOK.cons ok17 (AllOK.cons ok18 (AllOK.cons ok19 (AllOK.cons ok20 (AllOK.cons ok58 (AllOK.cons ok23 (AllOK.cons ok24 (AllOK.cons ok25 (AllOK.cons ok59 AllOK.nil))))))))) no_an Tryd.func14 (by kernel_rfl) (by kernel_rfl) f14_ct fun ⟨g, x, y, _⟩ _ Q h => (v14 g x y Q).mp (p14 h)
end Go.Proofs.Tw
namespace Go.Proofs.Tw
open Go Go.GX Go.Proofs

abbrev DM := Nat → Nat → Int
abbrev farD : Int := 1073741824
def tabR (n : Nat) (r : Nat → Int) : List Int := (List.range (n + 1)).map r
def tabD (n : Nat) (D : DM) : List (List Int) := (List.range (n + 1)).map fun i => tabR n (D i)
def updD (D : DM) (i j : Nat) (v : Int) : DM := fun a b => if a = i ∧ b = j then v else D a b
def startD : DM := fun i j => if i = j then 0 else farD
def gStep (g : Gauge) (fs : Fans) (m : Nat) (wrong : List Int) (k : Nat) (D : DM) : DM :=
  if hasF wrong k then D else updD (updD D k fs.length ((fs.getD k []).getD m 0 + g.1.getD m 0)) fs.length k (g.1.getD m 0 - (fs.getD k []).getD m 0)
def fStep (g : Gauge) (m : Nat) (f : Fam) (k : Nat) (D : DM) : DM :=
  if 0 ≤ f.getD k 0 then updD (updD D k (f.getD k 0).toNat (mnI (D k (f.getD k 0).toNat) (g.2.2.getD m (0, 0)).2)) (f.getD k 0).toNat k (mnI (D (f.getD k 0).toNat k) (-(g.2.2.getD m (0, 0)).1)) else D

def knownD (g : Gauge) (fs : Fans) (m : Nat) (f : Fam) (wrong : List Int) : Nat → DM
  | 0 => startD
  | k + 1 => fStep g m f k (gStep g fs m wrong k (knownD g fs m f wrong k))
def fwS (k i j : Nat) (D : DM) : DM := if D i k < farD ∧ D k j < farD then updD D i j (mnI (D i j) (D i k + D k j)) else D
def fwJ (k i : Nat) : Nat → DM → DM
  | 0, D => D
  | j + 1, D => fwS k i j (fwJ k i j D)
def fwI (n k : Nat) : Nat → DM → DM
  | 0, D => D
  | i + 1, D => fwJ k i (n + 1) (fwI n k i D)
def fwK (n : Nat) : Nat → DM → DM
  | 0, D => D
  | k + 1, D => fwI n k (n + 1) (fwK n k D)
def apartD (g : Gauge) (fs : Fans) (m : Nat) (f : Fam) (wrong : List Int) : DM := fwK fs.length (fs.length + 1) (knownD g fs m f wrong fs.length)

structure FamD (fs : Fans) (f : Fam) : Prop where
  len : f.length = fs.length
  rng : ∀ i, i < f.length → -1 ≤ f.getD i 0 ∧ f.getD i 0 < f.length ∧ f.getD i 0 ≠ (i : Int)
def f93_wp : Gauge × Fans × Int × List Int × List Int × Unit → Unit → (List (List Int) → Prop) → Prop := fun a _ Q =>
  (VB a.1 a.2.1 ∧ FamD a.2.1 a.2.2.2.1 ∧ 0 ≤ a.2.2.1 ∧ a.2.2.1 < a.1.1.length) ∧ Q (tabD a.2.1.length (apartD a.1 a.2.1 a.2.2.1.toNat a.2.2.2.1 a.2.2.2.2.1))
def f93_ct : Ct := ⟨arg5 kG kFs kI kIs kIs, .unit, kIss, f93_wp, false, false⟩
def f93_an : Nat → Items
  | 0 => [.t 13 kI, .mat 12 5001 5002 false 22 false 3 kI]
  | 2 => [.t 15 kI, .row 14 5003 false 3 kI]
  | 4 => [.t 16 kI, .lmat 5001 5004 false 22 false 3 kI]
  | 6 => [.t 18 kI, .lmat 5001 5005 false 22 false 3 kI]
  | 8 => [.t 19 kI, .lmat 5001 5006 false 22 false 3 kI]
  | 10 => [.t 20 kI, .lmat 5001 5007 false 22 false 3 kI]
  | _ => []
def canR (d : List (List Int)) : Bool := (List.range d.length).all fun i => decide (0 ≤ (d.getD i []).getD i 0)
def f92_wp : List (List Int) → Unit → (Bool → Prop) → Prop := fun d _ Q => (d.length ≤ 1000 ∧ ∀ i, i < d.length → i < (d.getD i []).length) ∧ Q (canR d)
def f92_ct : Ct := ⟨kIss, .unit, .bool, f92_wp, false, false⟩
def f92_an : Nat → Items
  | 0 => [.t 3 kI]
  | _ => []
def chaseF (l : List Int) : Nat → Int → Int
  | 0, a => a
  | k + 1, a => if 0 ≤ chaseF l k a then l.getD (chaseF l k a).toNat 0 else chaseF l k a
def famR (l : List Int) (n : Nat) : Bool := decide (l.length = n) && (l.all (inB (-1) (n - 1)) && (List.range n).all fun i => decide (chaseF l n i < 0))
def f91_wp : List Int × Int × Unit → Unit → (Bool → Prop) → Prop := fun a _ Q => (0 ≤ a.2.1 ∧ a.2.1 ≤ 1000) ∧ Q (famR a.1 a.2.1.toNat)
def f91_ct : Ct := ⟨arg2 kIs kI, .unit, .bool, f91_wp, false, false⟩
def f91_an : Nat → Items
  | 0 => [.t 5 kI]
  | 2 => [.t 6 kI]
  | 4 => [.t 8 kI, .t 7 kI]
  | _ => []
def canP (g : Gauge) (fs : Fans) (f : Fam) (m : Nat) (s : List Int) : Bool := canR (tabD fs.length (apartD g fs m f s))
def rightR (g : Gauge) (fs : Fans) (f : Fam) : Bool := (List.range g.1.length).all fun m => canP g fs f m []
def f39_wp : Gauge × Fans × List Int × Unit → Unit → (Bool → Prop) → Prop := fun a _ Q => (VB a.1 a.2.1 ∧ FamD a.2.1 a.2.2.1) ∧ Q (rightR a.1 a.2.1 a.2.2.1)
def f39_ct : Ct := ⟨arg3 kG kFs kIs, .unit, .bool, f39_wp, false, false⟩
def f39_an : Nat → Items
  | 0 => [.t 7 kI]
  | _ => []
def truthR (g : Gauge) (fs : Fans) (f : Fam) (m i : Nat) : Span := (-(apartD g fs m f [] fs.length i), apartD g fs m f [] i fs.length)
def f40_wp : Gauge × Fans × List Int × Int × Int × Unit → Unit → (Span → Prop) → Prop := fun a _ Q =>
  (VB a.1 a.2.1 ∧ FamD a.2.1 a.2.2.1 ∧ 0 ≤ a.2.2.2.1 ∧ a.2.2.2.1 < a.1.1.length ∧ 0 ≤ a.2.2.2.2.1 ∧ a.2.2.2.2.1 < a.2.1.length) ∧ Q (truthR a.1 a.2.1 a.2.2.1 a.2.2.2.1.toNat a.2.2.2.2.1.toNat)
def f40_ct : Ct := ⟨arg5 kG kFs kIs kI kI, .unit, kSp, f40_wp, false, false⟩
def f42_wp : Gauge × Fans × List Int × Unit → Unit → (List Slip → Prop) → Prop := fun a _ Q => (VB a.1 a.2.1 ∧ FamD a.2.1 a.2.2.1) ∧ Q (blameFR a.1.1.length a.2.1.length (canP a.1 a.2.1 a.2.2.1))
def f42_ct : Ct := ⟨arg3 kG kFs kIs, .unit, kSlips, f42_wp, true, false⟩
def f42_an : Nat → Items
  | 0 => [.t 9 kI, .row 7 5001 false 62 kSlip]
  | 2 => [.t 10 kI, .row 7 5002 false 62 kSlip]
  | _ => []
def familyF (g : Gauge) (fs : Fans) (l : List Int) : Int := if checkF g fs ≠ 0 then checkF g fs else if famR l fs.length = false then 6 else 0
def f38_wp : Gauge × Fans × List Int × Unit → Unit → (Int → Prop) → Prop := fun a _ Q => a.2.1.length ≤ 1000 ∧ Q (familyF a.1 a.2.1 a.2.2.1)
def f38_ct : Ct := ⟨arg3 kG kFs kIs, .unit, kI, f38_wp, false, false⟩
def f6_wp : Gauge × Fans × List Int × Unit → Unit → (Bool → Prop) → Prop := fun _ _ Q => Q true
def f6_ct : Ct := ⟨arg3 kG kFs kIs, .unit, .bool, f6_wp, false, false⟩
def f6_an : Nat → Items
  | 0 => [.t 13 kI]
  | 2 => [.t 14 kI]
  | _ => []
def f7_wp : Gauge × Fans × List Int × Unit → Unit → (Bool → Prop) → Prop := fun _ _ Q => Q true
def f7_ct : Ct := ⟨arg3 kG kFs kIs, .unit, .bool, f7_wp, false, false⟩
end Go.Proofs.Tw
set_option linter.unusedVariables false
set_option maxRecDepth 100000
namespace Go.Proofs.Tw
open Go Go.GX Go.Proofs

def V92 (d : List (List Int)) (Q : Bool → Prop) : Prop := ∃ (I : Int → Prop), ∃ (μ : Int → Nat), I (0 : Int) ∧ ∀ (x : Int), I x → List.length d ≤ (9223372036854775807 : Nat) → cnd (decide (x < (↑(List.length d) : Int))) ((0 : Int) ≤ x ∧ x < (↑(List.length d) : Int) ∧ (0 : Int) ≤ x ∧ x < (↑(List.length (List.getD d (Int.toNat x) ([] : List Int))) : Int) ∧ cnd (decide (List.getD (List.getD d (Int.toNat x) ([] : List Int)) (Int.toNat x) (0 : Int) < (0 : Int))) (Q false) (I (IntKind.wrap IntKind.i64 (x + (1 : Int))) ∧ μ (IntKind.wrap IntKind.i64 (x + (1 : Int))) < μ x)) (Q true)
theorem v92 (d : List (List Int)) (Q : Bool → Prop) : V92 d Q = vcFunc (S0 [] []) f92_ct.own f92_ct.fresh f92_an Tryd.f92 (bodyOf Tryd.f92) f92_ct.A f92_ct.C f92_ct.R d () Q := by kernel_rfl

def V91 (l : List Int) (n : Int) (Q : Bool → Prop) : Prop := List.length l ≤ (9223372036854775807 : Nat) → cnd ((↑(List.length l) : Int) != n) (Q false) (∃ (I : Int → Prop), ∃ (μ : Int → Nat), I (0 : Int) ∧ ∀ (x : Int), I x → cnd (decide (x < n)) ((0 : Int) ≤ x ∧ x < (↑(List.length l) : Int) ∧ f74_wp (List.getD l (Int.toNat x) (0 : Int), (-1 : Int), IntKind.wrap IntKind.i64 (n - (1 : Int)), ()) () fun (r : Bool) ↦ cnd (!r) (Q false) (I (IntKind.wrap IntKind.i64 (x + (1 : Int))) ∧ μ (IntKind.wrap IntKind.i64 (x + (1 : Int))) < μ x)) (∃ (I : Int → Prop), ∃ (μ : Int → Nat), I (0 : Int) ∧ ∀ (x : Int), I x → cnd (decide (x < n)) (∃ (I_1 : Int → Int → Prop), ∃ (μ_1 : Int → Int → Nat), I_1 (0 : Int) x ∧ ∀ (x_1 x_2 : Int), I_1 x_1 x_2 → cnd (decide (x_1 < n)) (cnd (decide (x_2 ≥ (0 : Int))) ((0 : Int) ≤ x_2 ∧ x_2 < (↑(List.length l) : Int) ∧ I_1 (IntKind.wrap IntKind.i64 (x_1 + (1 : Int))) (List.getD l (Int.toNat x_2) (0 : Int)) ∧ μ_1 (IntKind.wrap IntKind.i64 (x_1 + (1 : Int))) (List.getD l (Int.toNat x_2) (0 : Int)) < μ_1 x_1 x_2) (cnd (decide (x_2 ≥ (0 : Int))) (Q false) (I (IntKind.wrap IntKind.i64 (x + (1 : Int))) ∧ μ (IntKind.wrap IntKind.i64 (x + (1 : Int))) < μ x))) (cnd (decide (x_2 ≥ (0 : Int))) (Q false) (I (IntKind.wrap IntKind.i64 (x + (1 : Int))) ∧ μ (IntKind.wrap IntKind.i64 (x + (1 : Int))) < μ x))) (Q true)))
theorem v91 (l : List Int) (n : Int) (Q : Bool → Prop) : V91 l n Q = vcFunc (S0 [(74, f74_ct)] []) f91_ct.own f91_ct.fresh f91_an Tryd.f91 (bodyOf Tryd.f91) f91_ct.A f91_ct.C f91_ct.R (l, n, ()) () Q := by kernel_rfl

def V39 (g : List Int × List Int × List (Int × Int)) (fs : List (List Int)) (f : List Int) (Q : Bool → Prop) : Prop := ∃ (I : Int → Prop), ∃ (μ : Int → Nat), I (0 : Int) ∧ ∀ (x : Int), I x → List.length (Prod.fst g) ≤ (9223372036854775807 : Nat) → cnd (decide (x < (↑(List.length (Prod.fst g)) : Int))) (f93_wp ((Prod.fst g, Prod.fst (Prod.snd g), Prod.snd (Prod.snd g)), fs, x, f, ([] : List Int), ()) () fun (r : List (List Int)) ↦ f92_wp r () fun (r : Bool) ↦ cnd (!r) (Q false) (I (IntKind.wrap IntKind.i64 (x + (1 : Int))) ∧ μ (IntKind.wrap IntKind.i64 (x + (1 : Int))) < μ x)) (Q true)
theorem v39 (g : List Int × List Int × List (Int × Int)) (fs : List (List Int)) (f : List Int) (Q : Bool → Prop) : V39 g fs f Q = vcFunc (S0 [(93, f93_ct), (92, f92_ct)] []) f39_ct.own f39_ct.fresh f39_an Tryd.f39 (bodyOf Tryd.f39) f39_ct.A f39_ct.C f39_ct.R (g, fs, f, ()) () Q := by kernel_rfl

def V40 (g : List Int × List Int × List (Int × Int)) (fs : List (List Int)) (f : List Int) (m : Int) (i : Int) (Q : Int × Int → Prop) : Prop := f93_wp ((Prod.fst g, Prod.fst (Prod.snd g), Prod.snd (Prod.snd g)), fs, m, f, ([] : List Int), ()) () fun (r : List (List Int)) ↦ (0 : Int) ≤ (↑(List.length fs) : Int) ∧ (↑(List.length fs) : Int) < (↑(List.length r) : Int) ∧ (0 : Int) ≤ i ∧ i < (↑(List.length (List.getD r (Int.toNat (↑(List.length fs) : Int)) ([] : List Int))) : Int) ∧ (0 : Int) ≤ i ∧ i < (↑(List.length r) : Int) ∧ (0 : Int) ≤ (↑(List.length fs) : Int) ∧ (↑(List.length fs) : Int) < (↑(List.length (List.getD r (Int.toNat i) ([] : List Int))) : Int) ∧ Q (IntKind.wrap IntKind.i64 (Int.sub (0 : Int) (List.getD (List.getD r (Int.toNat (↑(List.length fs) : Int)) ([] : List Int)) (Int.toNat i) (0 : Int))), List.getD (List.getD r (Int.toNat i) ([] : List Int)) (Int.toNat (↑(List.length fs) : Int)) (0 : Int))
theorem v40 (g : List Int × List Int × List (Int × Int)) (fs : List (List Int)) (f : List Int) (m : Int) (i : Int) (Q : Int × Int → Prop) : V40 g fs f m i Q = vcFunc (S0 [(93, f93_ct)] []) f40_ct.own f40_ct.fresh no_an Tryd.f40 (bodyOf Tryd.f40) f40_ct.A f40_ct.C f40_ct.R (g, fs, f, m, i, ()) () Q := by kernel_rfl

def V42 (g : List Int × List Int × List (Int × Int)) (fs : List (List Int)) (f : List Int) (Q : List (Int × Int) → Prop) : Prop := List.length fs ≤ (9223372036854775807 : Nat) → f82_wp (↑(List.length fs) : Int) () fun (r : List (List Int)) ↦ ∃ (I : Int → List (Int × Int) → Prop), ∃ (μ : Int → List (Int × Int) → Nat), I (0 : Int) ([] : List (Int × Int)) ∧ ∀ (x : Int) (x_1 : List (Int × Int)), I x x_1 → List.length (Prod.fst g) ≤ (9223372036854775807 : Nat) → cnd (decide (x < (↑(List.length (Prod.fst g)) : Int))) (∃ (I_1 : Int → List (Int × Int) → Prop), ∃ (μ_1 : Int → List (Int × Int) → Nat), I_1 (0 : Int) x_1 ∧ ∀ (x_2 : Int) (x_3 : List (Int × Int)), I_1 x_2 x_3 → List.length r ≤ (9223372036854775807 : Nat) → cnd (decide (x_2 < (↑(List.length r) : Int))) ((0 : Int) ≤ x_2 ∧ x_2 < (↑(List.length r) : Int) ∧ ∃ (r_1 : List (List Int)), (f93_wp ((Prod.fst g, Prod.fst (Prod.snd g), Prod.snd (Prod.snd g)), fs, x, f, List.getD r (Int.toNat x_2) ([] : List Int), ()) () fun (r' : List (List Int)) ↦ r' = r_1) ∧ ∃ (r_2 : Bool), (f92_wp r_1 () fun (r' : Bool) ↦ r' = r_2) ∧ cnd r_2 ((0 : Int) ≤ x_2 ∧ x_2 < (↑(List.length r) : Int) ∧ f87_wp (x, List.getD r (Int.toNat x_2) ([] : List Int), ()) () fun (r : List (Int × Int)) ↦ (List.length x_3 + List.length r) * (16 : Nat) ≤ (140737488355328 : Nat) ∧ I (IntKind.wrap IntKind.i64 (x + (1 : Int))) (x_3 ++ r) ∧ μ (IntKind.wrap IntKind.i64 (x + (1 : Int))) (x_3 ++ r) < μ x x_1) (I_1 (IntKind.wrap IntKind.i64 (x_2 + (1 : Int))) x_3 ∧ μ_1 (IntKind.wrap IntKind.i64 (x_2 + (1 : Int))) x_3 < μ_1 x_2 x_3)) (I (IntKind.wrap IntKind.i64 (x + (1 : Int))) x_3 ∧ μ (IntKind.wrap IntKind.i64 (x + (1 : Int))) x_3 < μ x x_1)) (Q x_1)
theorem v42 (g : List Int × List Int × List (Int × Int)) (fs : List (List Int)) (f : List Int) (Q : List (Int × Int) → Prop) : V42 g fs f Q = vcFunc (S0 [(82, f82_ct), (93, f93_ct), (92, f92_ct), (87, f87_ct)] []) f42_ct.own f42_ct.fresh f42_an Tryd.f42 (bodyOf Tryd.f42) f42_ct.A f42_ct.C f42_ct.R (g, fs, f, ()) () Q := by kernel_rfl

def V38 (g : List Int × List Int × List (Int × Int)) (fs : List (List Int)) (l : List Int) (Q : Int → Prop) : Prop := f23_wp ((Prod.fst g, Prod.fst (Prod.snd g), Prod.snd (Prod.snd g)), fs, ()) () fun (r : Int) ↦ cnd (r != (0 : Int)) (Q r) (List.length fs ≤ (9223372036854775807 : Nat) → f91_wp (l, (↑(List.length fs) : Int), ()) () fun (r : Bool) ↦ cnd (!r) (Q (6 : Int)) (Q (0 : Int)))
theorem v38 (g : List Int × List Int × List (Int × Int)) (fs : List (List Int)) (l : List Int) (Q : Int → Prop) : V38 g fs l Q = vcFunc (S0 [(23, f23_ct), (91, f91_ct)] []) f38_ct.own f38_ct.fresh no_an Tryd.f38 (bodyOf Tryd.f38) f38_ct.A f38_ct.C f38_ct.R (g, fs, l, ()) () Q := by kernel_rfl

def V6 (g : List Int × List Int × List (Int × Int)) (fs : List (List Int)) (l : List Int) (Q : Bool → Prop) : Prop := f17_wp ((Prod.fst g, Prod.fst (Prod.snd g), Prod.snd (Prod.snd g)), fs, ()) () fun (r : Bool) ↦ cnd r (f18_wp () () fun (r : Bool) ↦ Q r) (List.length l ≤ (9223372036854775807 : Nat) → cnd (decide ((↑(List.length l) : Int) > (7 : Int))) (f18_wp () () fun (r : Bool) ↦ Q r) (f19_wp (Prod.fst g, Prod.fst (Prod.snd g), Prod.snd (Prod.snd g)) () fun (r : List Int × List Int × List (Int × Int)) ↦ f20_wp fs () fun (r_1 : List (List Int)) ↦ (List.length ([] : List Int) + List.length l) * (8 : Nat) ≤ (140737488355328 : Nat) ∧ f37_wp ((Prod.fst r, Prod.fst (Prod.snd r), Prod.snd (Prod.snd r)), r_1, ([] : List Int) ++ l, ()) () fun (r_2 : List (List (Int × Int)) × Int × Unit) ↦ f24_wp ((Prod.fst r, Prod.fst (Prod.snd r), Prod.snd (Prod.snd r)), (Prod.fst g, Prod.fst (Prod.snd g), Prod.snd (Prod.snd g)), ()) () fun (r : Bool) ↦ cnd (!r) (Q false) (f25_wp (r_1, fs, ()) () fun (r : Bool) ↦ cnd (!r) (Q false) (f32_wp (([] : List Int) ++ l, l, ()) () fun (r : Bool) ↦ cnd (!r) (Q false) (f38_wp ((Prod.fst g, Prod.fst (Prod.snd g), Prod.snd (Prod.snd g)), fs, l, ()) () fun (r : Int) ↦ cnd (r == (0 : Int)) (f39_wp ((Prod.fst g, Prod.fst (Prod.snd g), Prod.snd (Prod.snd g)), fs, l, ()) () fun (r_3 : Bool) ↦ cnd (!r_3) (cnd (Prod.fst (Prod.snd r_2) == (9 : Int)) (List.length (Prod.fst r_2) ≤ (9223372036854775807 : Nat) → cnd ((↑(List.length (Prod.fst r_2)) : Int) == (0 : Int)) (f18_wp () () fun (r : Bool) ↦ Q r) (Q false)) (Q false)) (cnd (r != (0 : Int)) (cnd (Prod.fst (Prod.snd r_2) == r) (List.length (Prod.fst r_2) ≤ (9223372036854775807 : Nat) → cnd ((↑(List.length (Prod.fst r_2)) : Int) == (0 : Int)) (f18_wp () () fun (r : Bool) ↦ Q r) (Q false)) (Q false)) (cnd (Prod.fst (Prod.snd r_2) != (0 : Int)) (Q false) (List.length (Prod.fst r_2) ≤ (9223372036854775807 : Nat) → List.length fs ≤ (9223372036854775807 : Nat) → cnd ((↑(List.length (Prod.fst r_2)) : Int) != (↑(List.length fs) : Int)) (Q false) (∃ (I : Int → Prop), ∃ (μ : Int → Nat), I (0 : Int) ∧ ∀ (x : Int), I x → List.length (Prod.fst r_2) ≤ (9223372036854775807 : Nat) → cnd (decide (x < (↑(List.length (Prod.fst r_2)) : Int))) ((0 : Int) ≤ x ∧ x < (↑(List.length (Prod.fst r_2)) : Int) ∧ cnd ((↑(List.length (List.getD (Prod.fst r_2) (Int.toNat x) ([] : List (Int × Int)))) : Int) != (↑(List.length (Prod.fst g)) : Int)) (Q false) (∃ (I_1 : Int → Prop), ∃ (μ_1 : Int → Nat), I_1 (0 : Int) ∧ ∀ (x_1 : Int), I_1 x_1 → List.length (Prod.fst g) ≤ (9223372036854775807 : Nat) → cnd (decide (x_1 < (↑(List.length (Prod.fst g)) : Int))) ((0 : Int) ≤ x ∧ x < (↑(List.length (Prod.fst r_2)) : Int) ∧ (0 : Int) ≤ x_1 ∧ x_1 < (↑(List.length (List.getD (Prod.fst r_2) (Int.toNat x) ([] : List (Int × Int)))) : Int) ∧ ∃ (r : Int × Int), (f40_wp ((Prod.fst g, Prod.fst (Prod.snd g), Prod.snd (Prod.snd g)), fs, l, x_1, x, ()) () fun (r' : Int × Int) ↦ r' = r) ∧ cnd (!(Prod.fst (List.getD (List.getD (Prod.fst r_2) (Int.toNat x) ([] : List (Int × Int))) (Int.toNat x_1) ((0 : Int), (0 : Int))) == Prod.fst r && (Prod.snd (List.getD (List.getD (Prod.fst r_2) (Int.toNat x) ([] : List (Int × Int))) (Int.toNat x_1) ((0 : Int), (0 : Int))) == Prod.snd r && true))) (Q false) (I_1 (IntKind.wrap IntKind.i64 (x_1 + (1 : Int))) ∧ μ_1 (IntKind.wrap IntKind.i64 (x_1 + (1 : Int))) < μ_1 x_1)) (I (IntKind.wrap IntKind.i64 (x + (1 : Int))) ∧ μ (IntKind.wrap IntKind.i64 (x + (1 : Int))) < μ x))) (f18_wp () () fun (r : Bool) ↦ Q r)))))) (cnd (r != (0 : Int)) (cnd (Prod.fst (Prod.snd r_2) == r) (List.length (Prod.fst r_2) ≤ (9223372036854775807 : Nat) → cnd ((↑(List.length (Prod.fst r_2)) : Int) == (0 : Int)) (f18_wp () () fun (r : Bool) ↦ Q r) (Q false)) (Q false)) (cnd (Prod.fst (Prod.snd r_2) != (0 : Int)) (Q false) (List.length (Prod.fst r_2) ≤ (9223372036854775807 : Nat) → List.length fs ≤ (9223372036854775807 : Nat) → cnd ((↑(List.length (Prod.fst r_2)) : Int) != (↑(List.length fs) : Int)) (Q false) (∃ (I : Int → Prop), ∃ (μ : Int → Nat), I (0 : Int) ∧ ∀ (x : Int), I x → List.length (Prod.fst r_2) ≤ (9223372036854775807 : Nat) → cnd (decide (x < (↑(List.length (Prod.fst r_2)) : Int))) ((0 : Int) ≤ x ∧ x < (↑(List.length (Prod.fst r_2)) : Int) ∧ cnd ((↑(List.length (List.getD (Prod.fst r_2) (Int.toNat x) ([] : List (Int × Int)))) : Int) != (↑(List.length (Prod.fst g)) : Int)) (Q false) (∃ (I_1 : Int → Prop), ∃ (μ_1 : Int → Nat), I_1 (0 : Int) ∧ ∀ (x_1 : Int), I_1 x_1 → List.length (Prod.fst g) ≤ (9223372036854775807 : Nat) → cnd (decide (x_1 < (↑(List.length (Prod.fst g)) : Int))) ((0 : Int) ≤ x ∧ x < (↑(List.length (Prod.fst r_2)) : Int) ∧ (0 : Int) ≤ x_1 ∧ x_1 < (↑(List.length (List.getD (Prod.fst r_2) (Int.toNat x) ([] : List (Int × Int)))) : Int) ∧ ∃ (r : Int × Int), (f40_wp ((Prod.fst g, Prod.fst (Prod.snd g), Prod.snd (Prod.snd g)), fs, l, x_1, x, ()) () fun (r' : Int × Int) ↦ r' = r) ∧ cnd (!(Prod.fst (List.getD (List.getD (Prod.fst r_2) (Int.toNat x) ([] : List (Int × Int))) (Int.toNat x_1) ((0 : Int), (0 : Int))) == Prod.fst r && (Prod.snd (List.getD (List.getD (Prod.fst r_2) (Int.toNat x) ([] : List (Int × Int))) (Int.toNat x_1) ((0 : Int), (0 : Int))) == Prod.snd r && true))) (Q false) (I_1 (IntKind.wrap IntKind.i64 (x_1 + (1 : Int))) ∧ μ_1 (IntKind.wrap IntKind.i64 (x_1 + (1 : Int))) < μ_1 x_1)) (I (IntKind.wrap IntKind.i64 (x + (1 : Int))) ∧ μ (IntKind.wrap IntKind.i64 (x + (1 : Int))) < μ x))) (f18_wp () () fun (r : Bool) ↦ Q r))))))))))
theorem v6 (g : List Int × List Int × List (Int × Int)) (fs : List (List Int)) (l : List Int) (Q : Bool → Prop) : V6 g fs l Q = vcFunc (S0 [(17, f17_ct), (18, f18_ct), (19, f19_ct), (20, f20_ct), (37, f37_ct), (24, f24_ct), (25, f25_ct), (32, f32_ct), (38, f38_ct), (39, f39_ct), (40, f40_ct)] []) f6_ct.own f6_ct.fresh f6_an Tryd.f6 (bodyOf Tryd.f6) f6_ct.A f6_ct.C f6_ct.R (g, fs, l, ()) () Q := by kernel_rfl

def V7 (g : List Int × List Int × List (Int × Int)) (fs : List (List Int)) (l : List Int) (Q : Bool → Prop) : Prop := f17_wp ((Prod.fst g, Prod.fst (Prod.snd g), Prod.snd (Prod.snd g)), fs, ()) () fun (r : Bool) ↦ cnd r (f18_wp () () fun (r : Bool) ↦ Q r) (List.length l ≤ (9223372036854775807 : Nat) → cnd (decide ((↑(List.length l) : Int) > (7 : Int))) (f18_wp () () fun (r : Bool) ↦ Q r) (f19_wp (Prod.fst g, Prod.fst (Prod.snd g), Prod.snd (Prod.snd g)) () fun (r : List Int × List Int × List (Int × Int)) ↦ f20_wp fs () fun (r_1 : List (List Int)) ↦ (List.length ([] : List Int) + List.length l) * (8 : Nat) ≤ (140737488355328 : Nat) ∧ f41_wp ((Prod.fst r, Prod.fst (Prod.snd r), Prod.snd (Prod.snd r)), r_1, ([] : List Int) ++ l, ()) () fun (r_2 : List (Int × Int) × Int × Unit) ↦ f24_wp ((Prod.fst r, Prod.fst (Prod.snd r), Prod.snd (Prod.snd r)), (Prod.fst g, Prod.fst (Prod.snd g), Prod.snd (Prod.snd g)), ()) () fun (r : Bool) ↦ cnd (!r) (Q false) (f25_wp (r_1, fs, ()) () fun (r : Bool) ↦ cnd (!r) (Q false) (f32_wp (([] : List Int) ++ l, l, ()) () fun (r : Bool) ↦ cnd (!r) (Q false) (f38_wp ((Prod.fst g, Prod.fst (Prod.snd g), Prod.snd (Prod.snd g)), fs, l, ()) () fun (r : Int) ↦ cnd (r != (0 : Int)) (cnd (Prod.fst (Prod.snd r_2) == r) (List.length (Prod.fst r_2) ≤ (9223372036854775807 : Nat) → cnd ((↑(List.length (Prod.fst r_2)) : Int) == (0 : Int)) (f18_wp () () fun (r : Bool) ↦ Q r) (Q false)) (Q false)) (cnd (Prod.fst (Prod.snd r_2) == (0 : Int)) (f42_wp ((Prod.fst g, Prod.fst (Prod.snd g), Prod.snd (Prod.snd g)), fs, l, ()) () fun (r : List (Int × Int)) ↦ f36_wp (Prod.fst r_2, r, ()) () fun (r : Bool) ↦ cnd r (f18_wp () () fun (r : Bool) ↦ Q r) (Q false)) (Q false)))))))
theorem v7 (g : List Int × List Int × List (Int × Int)) (fs : List (List Int)) (l : List Int) (Q : Bool → Prop) : V7 g fs l Q = vcFunc (S0 [(17, f17_ct), (18, f18_ct), (19, f19_ct), (20, f20_ct), (41, f41_ct), (24, f24_ct), (25, f25_ct), (32, f32_ct), (38, f38_ct), (42, f42_ct), (36, f36_ct)] []) f7_ct.own f7_ct.fresh no_an Tryd.f7 (bodyOf Tryd.f7) f7_ct.A f7_ct.C f7_ct.R (g, fs, l, ()) () Q := by kernel_rfl

end Go.Proofs.Tw
set_option linter.unusedVariables false
set_option maxRecDepth 100000
namespace Go.Proofs.Tw
open Go Go.GX Go.Proofs

def V93fam (g : List Int × List Int × List (Int × Int)) (f : List Int) (m : Int) (I : Int → List (List Int) → Prop) (μ : Int → List (List Int) → Nat) (x : Int) (y d : List (List Int)) : Prop := ((0 : Int) ≤ x ∧ x < (↑(List.length f) : Int) ∧ cnd (decide (List.getD f (Int.toNat x) (0 : Int) ≥ (0 : Int))) ((0 : Int) ≤ x ∧ x < (↑(List.length d) : Int) ∧ (0 : Int) ≤ List.getD f (Int.toNat x) (0 : Int) ∧ List.getD f (Int.toNat x) (0 : Int) < (↑(List.length d) : Int) ∧ (0 : Int) ≤ x ∧ x < (↑(List.length d) : Int) ∧ (0 : Int) ≤ List.getD f (Int.toNat x) (0 : Int) ∧ List.getD f (Int.toNat x) (0 : Int) < (↑(List.length (List.getD d (Int.toNat x) ([] : List Int))) : Int) ∧ (0 : Int) ≤ m ∧ m < (↑(List.length (Prod.snd (Prod.snd g))) : Int) ∧ (0 : Int) ≤ List.getD f (Int.toNat x) (0 : Int) ∧ List.getD f (Int.toNat x) (0 : Int) < (↑(List.length d) : Int) ∧ (0 : Int) ≤ x ∧ x < (↑(List.length (List.getD d (Int.toNat (List.getD f (Int.toNat x) (0 : Int))) ([] : List Int))) : Int) ∧ (0 : Int) ≤ m ∧ m < (↑(List.length (Prod.snd (Prod.snd g))) : Int) ∧ (0 : Int) ≤ List.getD f (Int.toNat x) (0 : Int) ∧ List.getD f (Int.toNat x) (0 : Int) < (↑(List.length (List.getD d (Int.toNat x) ([] : List Int))) : Int) ∧ (0 : Int) ≤ x ∧ x < (↑(List.length (List.getD (List.set d (Int.toNat x) (List.set (List.getD d (Int.toNat x) ([] : List Int)) (Int.toNat (List.getD f (Int.toNat x) (0 : Int))) (mnI (List.getD (List.getD d (Int.toNat x) ([] : List Int)) (Int.toNat (List.getD f (Int.toNat x) (0 : Int))) (0 : Int)) (Prod.snd (List.getD (Prod.snd (Prod.snd g)) (Int.toNat m) ((0 : Int), (0 : Int))))))) (Int.toNat (List.getD f (Int.toNat x) (0 : Int))) ([] : List Int))) : Int) ∧ I (IntKind.wrap IntKind.i64 (x + (1 : Int))) (List.map (fun (xs : List Int) ↦ xs) (List.set (List.set d (Int.toNat x) (List.set (List.getD d (Int.toNat x) ([] : List Int)) (Int.toNat (List.getD f (Int.toNat x) (0 : Int))) (mnI (List.getD (List.getD d (Int.toNat x) ([] : List Int)) (Int.toNat (List.getD f (Int.toNat x) (0 : Int))) (0 : Int)) (Prod.snd (List.getD (Prod.snd (Prod.snd g)) (Int.toNat m) ((0 : Int), (0 : Int))))))) (Int.toNat (List.getD f (Int.toNat x) (0 : Int))) (List.set (List.getD (List.set d (Int.toNat x) (List.set (List.getD d (Int.toNat x) ([] : List Int)) (Int.toNat (List.getD f (Int.toNat x) (0 : Int))) (mnI (List.getD (List.getD d (Int.toNat x) ([] : List Int)) (Int.toNat (List.getD f (Int.toNat x) (0 : Int))) (0 : Int)) (Prod.snd (List.getD (Prod.snd (Prod.snd g)) (Int.toNat m) ((0 : Int), (0 : Int))))))) (Int.toNat (List.getD f (Int.toNat x) (0 : Int))) ([] : List Int)) (Int.toNat x) (mnI (List.getD (List.getD d (Int.toNat (List.getD f (Int.toNat x) (0 : Int))) ([] : List Int)) (Int.toNat x) (0 : Int)) (IntKind.wrap IntKind.i64 (Int.sub (0 : Int) (Prod.fst (List.getD (Prod.snd (Prod.snd g)) (Int.toNat m) ((0 : Int), (0 : Int)))))))))) ∧ μ (IntKind.wrap IntKind.i64 (x + (1 : Int))) (List.map (fun (xs : List Int) ↦ xs) (List.set (List.set d (Int.toNat x) (List.set (List.getD d (Int.toNat x) ([] : List Int)) (Int.toNat (List.getD f (Int.toNat x) (0 : Int))) (mnI (List.getD (List.getD d (Int.toNat x) ([] : List Int)) (Int.toNat (List.getD f (Int.toNat x) (0 : Int))) (0 : Int)) (Prod.snd (List.getD (Prod.snd (Prod.snd g)) (Int.toNat m) ((0 : Int), (0 : Int))))))) (Int.toNat (List.getD f (Int.toNat x) (0 : Int))) (List.set (List.getD (List.set d (Int.toNat x) (List.set (List.getD d (Int.toNat x) ([] : List Int)) (Int.toNat (List.getD f (Int.toNat x) (0 : Int))) (mnI (List.getD (List.getD d (Int.toNat x) ([] : List Int)) (Int.toNat (List.getD f (Int.toNat x) (0 : Int))) (0 : Int)) (Prod.snd (List.getD (Prod.snd (Prod.snd g)) (Int.toNat m) ((0 : Int), (0 : Int))))))) (Int.toNat (List.getD f (Int.toNat x) (0 : Int))) ([] : List Int)) (Int.toNat x) (mnI (List.getD (List.getD d (Int.toNat (List.getD f (Int.toNat x) (0 : Int))) ([] : List Int)) (Int.toNat x) (0 : Int)) (IntKind.wrap IntKind.i64 (Int.sub (0 : Int) (Prod.fst (List.getD (Prod.snd (Prod.snd g)) (Int.toNat m) ((0 : Int), (0 : Int)))))))))) < μ x y) (I (IntKind.wrap IntKind.i64 (x + (1 : Int))) (List.map (fun (xs : List Int) ↦ xs) d) ∧ μ (IntKind.wrap IntKind.i64 (x + (1 : Int))) (List.map (fun (xs : List Int) ↦ xs) d) < μ x y))
def V93fw (fs : List (List Int)) (d : List (List Int)) (Q : List (List Int) → Prop) : Prop := (∃ (I : Int → List (List Int) → Prop), ∃ (μ : Int → List (List Int) → Nat), I (0 : Int) (List.map (fun (xs : List Int) ↦ xs) d) ∧ ∀ (x : Int) (x_3 : List (List Int)), I x x_3 → cnd (decide (x ≤ (↑(List.length fs) : Int))) (∃ (I_1 : Int → List (List Int) → Prop), ∃ (μ_1 : Int → List (List Int) → Nat), I_1 (0 : Int) (List.map (fun (xs : List Int) ↦ xs) x_3) ∧ ∀ (x_4 : Int) (x_5 : List (List Int)), I_1 x_4 x_5 → cnd (decide (x_4 ≤ (↑(List.length fs) : Int))) (∃ (I : Int → List (List Int) → Prop), ∃ (μ : Int → List (List Int) → Nat), I (0 : Int) (List.map (fun (xs : List Int) ↦ xs) x_5) ∧ ∀ (x_6 : Int) (x_7 : List (List Int)), I x_6 x_7 → cnd (decide (x_6 ≤ (↑(List.length fs) : Int))) ((0 : Int) ≤ x_4 ∧ x_4 < (↑(List.length x_7) : Int) ∧ (0 : Int) ≤ x ∧ x < (↑(List.length (List.getD x_7 (Int.toNat x_4) ([] : List Int))) : Int) ∧ cnd (decide (List.getD (List.getD x_7 (Int.toNat x_4) ([] : List Int)) (Int.toNat x) (0 : Int) < (1073741824 : Int))) ((0 : Int) ≤ x ∧ x < (↑(List.length x_7) : Int) ∧ (0 : Int) ≤ x_6 ∧ x_6 < (↑(List.length (List.getD x_7 (Int.toNat x) ([] : List Int))) : Int) ∧ cnd (decide (List.getD (List.getD x_7 (Int.toNat x) ([] : List Int)) (Int.toNat x_6) (0 : Int) < (1073741824 : Int))) ((0 : Int) ≤ x_4 ∧ x_4 < (↑(List.length x_7) : Int) ∧ (0 : Int) ≤ x_4 ∧ x_4 < (↑(List.length x_7) : Int) ∧ (0 : Int) ≤ x_6 ∧ x_6 < (↑(List.length (List.getD x_7 (Int.toNat x_4) ([] : List Int))) : Int) ∧ (0 : Int) ≤ x_4 ∧ x_4 < (↑(List.length x_7) : Int) ∧ (0 : Int) ≤ x ∧ x < (↑(List.length (List.getD x_7 (Int.toNat x_4) ([] : List Int))) : Int) ∧ (0 : Int) ≤ x ∧ x < (↑(List.length x_7) : Int) ∧ (0 : Int) ≤ x_6 ∧ x_6 < (↑(List.length (List.getD x_7 (Int.toNat x) ([] : List Int))) : Int) ∧ (0 : Int) ≤ x_6 ∧ x_6 < (↑(List.length (List.getD x_7 (Int.toNat x_4) ([] : List Int))) : Int) ∧ I (IntKind.wrap IntKind.i64 (x_6 + (1 : Int))) (List.map (fun (xs : List Int) ↦ xs) (List.set x_7 (Int.toNat x_4) (List.set (List.getD x_7 (Int.toNat x_4) ([] : List Int)) (Int.toNat x_6) (mnI (List.getD (List.getD x_7 (Int.toNat x_4) ([] : List Int)) (Int.toNat x_6) (0 : Int)) (IntKind.wrap IntKind.i64 (List.getD (List.getD x_7 (Int.toNat x_4) ([] : List Int)) (Int.toNat x) (0 : Int) + List.getD (List.getD x_7 (Int.toNat x) ([] : List Int)) (Int.toNat x_6) (0 : Int))))))) ∧ μ (IntKind.wrap IntKind.i64 (x_6 + (1 : Int))) (List.map (fun (xs : List Int) ↦ xs) (List.set x_7 (Int.toNat x_4) (List.set (List.getD x_7 (Int.toNat x_4) ([] : List Int)) (Int.toNat x_6) (mnI (List.getD (List.getD x_7 (Int.toNat x_4) ([] : List Int)) (Int.toNat x_6) (0 : Int)) (IntKind.wrap IntKind.i64 (List.getD (List.getD x_7 (Int.toNat x_4) ([] : List Int)) (Int.toNat x) (0 : Int) + List.getD (List.getD x_7 (Int.toNat x) ([] : List Int)) (Int.toNat x_6) (0 : Int))))))) < μ x_6 x_7) (I (IntKind.wrap IntKind.i64 (x_6 + (1 : Int))) (List.map (fun (xs : List Int) ↦ xs) x_7) ∧ μ (IntKind.wrap IntKind.i64 (x_6 + (1 : Int))) (List.map (fun (xs : List Int) ↦ xs) x_7) < μ x_6 x_7)) (I (IntKind.wrap IntKind.i64 (x_6 + (1 : Int))) (List.map (fun (xs : List Int) ↦ xs) x_7) ∧ μ (IntKind.wrap IntKind.i64 (x_6 + (1 : Int))) (List.map (fun (xs : List Int) ↦ xs) x_7) < μ x_6 x_7)) (I_1 (IntKind.wrap IntKind.i64 (x_4 + (1 : Int))) (List.map (fun (xs : List Int) ↦ xs) x_7) ∧ μ_1 (IntKind.wrap IntKind.i64 (x_4 + (1 : Int))) (List.map (fun (xs : List Int) ↦ xs) x_7) < μ_1 x_4 x_5)) (I (IntKind.wrap IntKind.i64 (x + (1 : Int))) (List.map (fun (xs : List Int) ↦ xs) x_5) ∧ μ (IntKind.wrap IntKind.i64 (x + (1 : Int))) (List.map (fun (xs : List Int) ↦ xs) x_5) < μ x x_3)) (Q (List.map (fun (x : List Int) ↦ x) x_3)))
def V93 (g : List Int × List Int × List (Int × Int)) (fs : List (List Int)) (m : Int) (f : List Int) (wrong : List Int) (Q : List (List Int) → Prop) : Prop := List.length fs ≤ (9223372036854775807 : Nat) → ∃ (I : Int → List (List Int) → Prop), ∃ (μ : Int → List (List Int) → Nat), I (0 : Int) (List.map (fun (xs : List Int) ↦ xs) ([] : List (List Int))) ∧ ∀ (x : Int) (x_1 : List (List Int)), I x x_1 → cnd (decide (x ≤ (↑(List.length fs) : Int))) (∃ (I_1 : Int → List Int → Prop), ∃ (μ_1 : Int → List Int → Nat), I_1 (0 : Int) ([] : List Int) ∧ ∀ (x_2 : Int) (x_3 : List Int), I_1 x_2 x_3 → cnd (decide (x_2 ≤ (↑(List.length fs) : Int))) ((List.length x_3 + List.length ((1073741824 : Int) :: ([] : List Int))) * (8 : Nat) ≤ (140737488355328 : Nat) ∧ I_1 (IntKind.wrap IntKind.i64 (x_2 + (1 : Int))) (x_3 ++ (1073741824 : Int) :: ([] : List Int)) ∧ μ_1 (IntKind.wrap IntKind.i64 (x_2 + (1 : Int))) (x_3 ++ (1073741824 : Int) :: ([] : List Int)) < μ_1 x_2 x_3) ((0 : Int) ≤ x ∧ x < (↑(List.length x_3) : Int) ∧ (List.length x_1 + List.length (List.set x_3 (Int.toNat x) (0 : Int) :: ([] : List (List Int)))) * (24 : Nat) ≤ (140737488355328 : Nat) ∧ List.length (List.set x_3 (Int.toNat x) (0 : Int) :: ([] : List (List Int))) ≠ (0 : Nat) ∧ I (IntKind.wrap IntKind.i64 (x + (1 : Int))) (List.map (fun (xs : List Int) ↦ xs) (List.map (fun (xs : List Int) ↦ xs) x_1 ++ List.set x_3 (Int.toNat x) (0 : Int) :: ([] : List (List Int)))) ∧ μ (IntKind.wrap IntKind.i64 (x + (1 : Int))) (List.map (fun (xs : List Int) ↦ xs) (List.map (fun (xs : List Int) ↦ xs) x_1 ++ List.set x_3 (Int.toNat x) (0 : Int) :: ([] : List (List Int)))) < μ x x_1)) (∃ (I : Int → List (List Int) → Prop), ∃ (μ : Int → List (List Int) → Nat), I (0 : Int) (List.map (fun (xs : List Int) ↦ xs) x_1) ∧ ∀ (x : Int) (x_2 : List (List Int)), I x x_2 → cnd (decide (x < (↑(List.length fs) : Int))) (f75_wp (wrong, x, ()) () fun (r : Bool) ↦ cnd (!r) ((0 : Int) ≤ x ∧ x < (↑(List.length x_2) : Int) ∧ (0 : Int) ≤ (↑(List.length fs) : Int) ∧ (↑(List.length fs) : Int) < (↑(List.length x_2) : Int) ∧ (0 : Int) ≤ x ∧ x < (↑(List.length fs) : Int) ∧ (0 : Int) ≤ m ∧ m < (↑(List.length (List.getD fs (Int.toNat x) ([] : List Int))) : Int) ∧ (0 : Int) ≤ m ∧ m < (↑(List.length (Prod.fst g)) : Int) ∧ (0 : Int) ≤ m ∧ m < (↑(List.length (Prod.fst g)) : Int) ∧ (0 : Int) ≤ x ∧ x < (↑(List.length fs) : Int) ∧ (0 : Int) ≤ m ∧ m < (↑(List.length (List.getD fs (Int.toNat x) ([] : List Int))) : Int) ∧ (0 : Int) ≤ (↑(List.length fs) : Int) ∧ (↑(List.length fs) : Int) < (↑(List.length (List.getD x_2 (Int.toNat x) ([] : List Int))) : Int) ∧ (0 : Int) ≤ x ∧ x < (↑(List.length (List.getD (List.set x_2 (Int.toNat x) (List.set (List.getD x_2 (Int.toNat x) ([] : List Int)) (Int.toNat (↑(List.length fs) : Int)) (IntKind.wrap IntKind.i64 (List.getD (List.getD fs (Int.toNat x) ([] : List Int)) (Int.toNat m) (0 : Int) + List.getD (Prod.fst g) (Int.toNat m) (0 : Int))))) (Int.toNat (↑(List.length fs) : Int)) ([] : List Int))) : Int) ∧ V93fam g f m I μ x x_2 (List.set (List.set x_2 (Int.toNat x) (List.set (List.getD x_2 (Int.toNat x) ([] : List Int)) (Int.toNat (↑(List.length fs) : Int)) (IntKind.wrap IntKind.i64 (List.getD (List.getD fs (Int.toNat x) ([] : List Int)) (Int.toNat m) (0 : Int) + List.getD (Prod.fst g) (Int.toNat m) (0 : Int))))) (Int.toNat (↑(List.length fs) : Int)) (List.set (List.getD (List.set x_2 (Int.toNat x) (List.set (List.getD x_2 (Int.toNat x) ([] : List Int)) (Int.toNat (↑(List.length fs) : Int)) (IntKind.wrap IntKind.i64 (List.getD (List.getD fs (Int.toNat x) ([] : List Int)) (Int.toNat m) (0 : Int) + List.getD (Prod.fst g) (Int.toNat m) (0 : Int))))) (Int.toNat (↑(List.length fs) : Int)) ([] : List Int)) (Int.toNat x) (IntKind.wrap IntKind.i64 (List.getD (Prod.fst g) (Int.toNat m) (0 : Int) - List.getD (List.getD fs (Int.toNat x) ([] : List Int)) (Int.toNat m) (0 : Int)))))) (V93fam g f m I μ x x_2 x_2)) (V93fw fs x_2 Q))
theorem v93 (g : List Int × List Int × List (Int × Int)) (fs : List (List Int)) (m : Int) (f : List Int) (wrong : List Int) (Q : List (List Int) → Prop) : V93 g fs m f wrong Q = vcFunc (S0 [(75, f75_ct)] [200, 1202]) f93_ct.own f93_ct.fresh f93_an Tryd.f93 (bodyOf Tryd.f93) f93_ct.A f93_ct.C f93_ct.R (g, fs, m, f, wrong, ()) () Q := by kernel_rfl
end Go.Proofs.Tw
set_option linter.unusedVariables false
set_option maxRecDepth 100000
namespace Go.Proofs.Tw
open Go Go.GX Go.Proofs
theorem forLe {σ : Type} {n : Nat} (hn : n ≤ 1000) (F : Nat → σ) {s0 : σ} (h0 : s0 = F 0) {body : (Int → σ → Prop) → (Int → σ → Nat) → Int → σ → Prop}
    (hb : ∀ k : Nat, k ≤ n → ∀ (I : Int → σ → Prop) (μ : Int → σ → Nat), (I (k + 1 : Int) (F (k + 1)) ∧ μ (k + 1 : Int) (F (k + 1)) < μ k (F k)) → IntKind.wrap .i64 ((k : Int) + 1) = k + 1 → body I μ k (F k))
    {e : Int → σ → Prop} (he : e ((n : Int) + 1) (F (n + 1))) :
    ∃ (I : Int → σ → Prop) (μ : Int → σ → Nat), I 0 s0 ∧ ∀ x s, I x s → cnd (decide (x ≤ (n : Int))) (body I μ x s) (e x s) := by
  refine ⟨fun x s => ∃ k : Nat, k ≤ n + 1 ∧ x = k ∧ s = F k, fun x _ => (n + 1 - x).toNat, ⟨0, Nat.zero_le _, rfl, h0⟩, ?_⟩
  rintro x s ⟨k, hk, rfl, rfl⟩
  refine cnd_iff.2 ⟨fun h => ?_, fun h => ?_⟩
  · have h : (k : Int) ≤ n := of_decide_eq_true h
    refine hb k (by omega) _ _ ⟨⟨k + 1, by omega, by push_cast; rfl, rfl⟩, by omega⟩ (wrapS (by omega) (by omega))
  · have h : ¬ (k : Int) ≤ n := of_decide_eq_false h
    have : k = n + 1 := by omega
    subst this
    simpa using he

theorem map_range_set {α : Type} (N : Nat) (F : Nat → α) (i : Nat) (x : α) : ((List.range N).map F).set i x = (List.range N).map fun a => if a = i then x else F a := by
  refine List.ext_getElem (by simp) fun a h1 h2 => ?_
  simp only [List.getElem_set, List.getElem_map, List.getElem_range]
  by_cases h : i = a
  · rw [if_pos h, if_pos h.symm]
  · rw [if_neg h, if_neg (fun e => h e.symm)]
theorem map_range_getD {α : Type} (N : Nat) (F : Nat → α) (i : Nat) (d : α) (h : i < N) : ((List.range N).map F).getD i d = F i := by
  rw [List.getD_eq_getElem?_getD, List.getElem?_map, List.getElem?_range h]; rfl
theorem tabD_len (n : Nat) (D : DM) : (tabD n D).length = n + 1 := by simp [tabD]
theorem tabR_len (n : Nat) (r : Nat → Int) : (tabR n r).length = n + 1 := by simp [tabR]
theorem tabD_get {n : Nat} (D : DM) {i : Nat} (h : i ≤ n) : (tabD n D).getD i [] = tabR n (D i) := map_range_getD _ _ _ _ (by omega)
theorem tabR_get {n : Nat} (r : Nat → Int) {j : Nat} (h : j ≤ n) : (tabR n r).getD j 0 = r j := map_range_getD _ _ _ _ (by omega)
theorem tab_set {n : Nat} (D : DM) (i j : Nat) (v : Int) : (tabD n D).set i ((tabR n (D i)).set j v) = tabD n (updD D i j v) := by
  unfold tabD
  rw [map_range_set]
  refine List.map_congr_left fun a _ => ?_
  by_cases h : a = i
  · rw [if_pos h]
    unfold tabR
    rw [map_range_set]
    refine List.map_congr_left fun b _ => ?_
    unfold updD
    rw [h]
    by_cases hb : b = j
    · rw [if_pos hb, if_pos ⟨rfl, hb⟩]
    · rw [if_neg hb, if_neg (fun e => hb e.2)]
  · rw [if_neg h]
    congr 1
    funext b
    unfold updD
    rw [if_neg (fun e => h e.1)]
theorem map_self {α : Type} (xs : List α) : xs.map (fun x => x) = xs := List.map_id' xs

theorem updD_cases (D : DM) (i j : Nat) (v : Int) (a b : Nat) : (a = i ∧ b = j ∧ updD D i j v a b = v) ∨ (¬(a = i ∧ b = j) ∧ updD D i j v a b = D a b) := by
  unfold updD
  by_cases h : a = i ∧ b = j
  · exact .inl ⟨h.1, h.2, if_pos h⟩
  · exact .inr ⟨h, if_neg h⟩
theorem known_low {g : Gauge} {fs : Fans} {m : Nat} {f : Fam} (v : VB g fs) (hm : m < g.1.length) (wrong : List Int) : ∀ k, k ≤ fs.length → ∀ a b, -10105 ≤ knownD g fs m f wrong k a b
  | 0, _, a, b => by show -10105 ≤ (if a = b then (0 : Int) else farD); split <;> decide
  | k + 1, hk, a, b => by
    have ih := known_low v hm wrong (f := f) k (by omega)
    have hc := v.copy_v hm
    have ho := v.off_v hm
    have hv := v.fan_v (f := k) (m := m) (by omega) hm
    have g1 : ∀ a b, -10105 ≤ gStep g fs m wrong k (knownD g fs m f wrong k) a b := by
      intro a b
      unfold gStep
      split
      · exact ih a b
      · rcases updD_cases (updD (knownD g fs m f wrong k) k fs.length ((fs.getD k []).getD m 0 + g.1.getD m 0)) fs.length k (g.1.getD m 0 - (fs.getD k []).getD m 0) a b with ⟨_, _, e⟩ | ⟨_, e⟩
        · rw [e]; omega
        · rw [e]
          rcases updD_cases (knownD g fs m f wrong k) k fs.length ((fs.getD k []).getD m 0 + g.1.getD m 0) a b with ⟨_, _, e⟩ | ⟨_, e⟩
          · rw [e]; omega
          · rw [e]; exact ih a b
    show -10105 ≤ fStep g m f k (gStep g fs m wrong k (knownD g fs m f wrong k)) a b
    generalize gStep g fs m wrong k (knownD g fs m f wrong k) = E at g1
    unfold fStep
    split
    · rcases updD_cases (updD E k (f.getD k 0).toNat (mnI (E k (f.getD k 0).toNat) (g.2.2.getD m (0, 0)).2)) (f.getD k 0).toNat k (mnI (E (f.getD k 0).toNat k) (-(g.2.2.getD m (0, 0)).1)) a b with ⟨_, _, e⟩ | ⟨_, e⟩
      · rw [e]
        have := mn_cases (E (f.getD k 0).toNat k) (-(g.2.2.getD m (0, 0)).1)
        have := g1 (f.getD k 0).toNat k
        omega
      · rw [e]
        rcases updD_cases E k (f.getD k 0).toNat (mnI (E k (f.getD k 0).toNat) (g.2.2.getD m (0, 0)).2) a b with ⟨_, _, e⟩ | ⟨_, e⟩
        · rw [e]
          have := mn_cases (E k (f.getD k 0).toNat) (g.2.2.getD m (0, 0)).2
          have := g1 k (f.getD k 0).toNat
          omega
        · rw [e]; exact g1 a b
    · exact g1 a b

def StL (k : Nat) (L : Int) (i j : Nat) (E : DM) : Prop := ∀ a b, (¬(a < i ∨ (a = i ∧ b < j)) → -L ≤ E a b) ∧ (a = k → b = k → -(2 * L) ≤ E a b) ∧ (a = k ∨ b = k → -(3 * L) ≤ E a b) ∧ -(6 * L) ≤ E a b
theorem st_step {k : Nat} {L : Int} (hL : 0 ≤ L) {i j : Nat} {E : DM} (h : StL k L i j E) : StL k L i (j + 1) (fwS k i j E) := by
  unfold fwS
  split
  · intro a b
    have hab := h a b
    have hij := h i j
    have hik := h i k
    have hkj := h k j
    have hn := hij.1 (by omega)
    rcases updD_cases E i j (mnI (E i j) (E i k + E k j)) a b with ⟨e1, e2, e⟩ | ⟨hne, e⟩
    · subst e1 e2
      rw [e]
      have hm := mn_cases (E a b) (E a k + E k b)
      obtain ⟨hm, -⟩ := hm
      have p1 := hik.2.2.1 (.inr rfl)
      have p2 := hkj.2.2.1 (.inl rfl)
      refine ⟨fun hc => absurd (.inr ⟨rfl, by omega⟩) hc, fun ha hb => ?_, fun hab => ?_, by omega⟩
      · subst ha; subst hb; omega
      · rcases hab with rfl | rfl
        · have := hik.2.1 rfl rfl; omega
        · have := hkj.2.1 rfl rfl; omega
    · rw [e]
      exact ⟨fun hc => hab.1 (by omega), hab.2⟩
  · intro a b
    exact ⟨fun hc => (h a b).1 (by omega), (h a b).2⟩
theorem st_J {k : Nat} {L : Int} (hL : 0 ≤ L) {i : Nat} {E : DM} (h : StL k L i 0 E) : ∀ j, StL k L i j (fwJ k i j E)
  | 0 => h
  | j + 1 => st_step hL (st_J hL h j)
theorem st_I {n k : Nat} {L : Int} (hL : 0 ≤ L) {D : DM} (h : ∀ a b, -L ≤ D a b) : ∀ i, StL k L i 0 (fwI n k i D)
  | 0 => fun a b => ⟨fun _ => h a b, fun _ _ => by have := h a b; show _ ≤ D a b; omega, fun _ => by have := h a b; show _ ≤ D a b; omega, by have := h a b; show _ ≤ D a b; omega⟩
  | i + 1 => fun a b => by
    have this : StL k L i (n + 1) (fwJ k i (n + 1) (fwI n k i D)) := st_J hL (st_I hL h i) (n + 1)
    exact ⟨fun hc => (this a b).1 (by omega), (this a b).2⟩
theorem low_K {n : Nat} {D : DM} (h : ∀ a b, -10105 ≤ D a b) : ∀ k, ∀ a b, -((10105 * 6 ^ k : Nat) : Int) ≤ fwK n k D a b
  | 0, a, b => h a b
  | k + 1, a, b => by
    have this : StL k ((10105 * 6 ^ k : Nat) : Int) (n + 1) 0 (fwI n k (n + 1) (fwK n k D)) := st_I (by omega) (low_K h k) (n + 1)
    have := (this a b).2.2.2
    have e : ((10105 * 6 ^ (k + 1) : Nat) : Int) = 6 * ((10105 * 6 ^ k : Nat) : Int) := by rw [Nat.pow_succ]; push_cast; omega
    rw [e]
    exact this
theorem low_all {n : Nat} {D : DM} (h : ∀ a b, -10105 ≤ D a b) {k : Nat} (hk : k ≤ 5) (i j a b : Nat) : -471458880 ≤ fwJ k i j (fwI n k i (fwK n k D)) a b := by
  have this : StL k ((10105 * 6 ^ k : Nat) : Int) i j (fwJ k i j (fwI n k i (fwK n k D))) := st_J (by omega) (st_I (by omega) (low_K h k) i) j
  have this := (this a b).2.2.2
  have h2 : 6 ^ k ≤ 6 ^ 5 := Nat.pow_le_pow_right (by omega) hk
  have h3 : (6 : Nat) ^ 5 = 7776 := rfl
  have h4 : 10105 * 6 ^ k ≤ 78576480 := by omega
  omega

theorem fam_ok {g : Gauge} {fs : Fans} {m : Nat} {f : Fam} (v : VB g fs) (fd : FamD fs f) (hm : m < g.1.length) {k : Nat} (hk : k < fs.length) {I : Int → List (List Int) → Prop} {μ : Int → List (List Int) → Nat} {y : List (List Int)} {D : DM}
    (hw : IntKind.wrap .i64 ((k : Int) + 1) = k + 1)
    (h : I (k + 1 : Int) (tabD fs.length (fStep g m f k D)) ∧ μ (k + 1 : Int) (tabD fs.length (fStep g m f k D)) < μ k y) : V93fam g f m I μ k y (tabD fs.length D) := by
  have hc := v.copy_v hm
  have hf := fd.rng k (by rw [fd.len]; exact hk)
  have fl := fd.len
  have cp := v.cp
  unfold V93fam
  simp only [Int.toNat_natCast, hw]
  refine ⟨by omega, by omega, cnd_iff.2 ⟨fun hc1 => ?_, fun hc1 => ?_⟩⟩
  · have hc1 : 0 ≤ f.getD k 0 := of_decide_eq_true hc1
    unfold fStep at h
    rw [if_pos hc1] at h
    obtain ⟨o, ho⟩ : ∃ o : Nat, f.getD k 0 = o := ⟨(f.getD k 0).toNat, by omega⟩
    rw [ho] at h hf ⊢
    simp only [Int.toNat_natCast] at h ⊢
    have w : IntKind.wrap .i64 (Int.sub 0 (g.2.2.getD m (0, 0)).1) = -(g.2.2.getD m (0, 0)).1 := by
      show IntKind.wrap .i64 (0 - (g.2.2.getD m (0, 0)).1) = _; rw [wrapS (by omega) (by omega)]; omega
    rw [tabD_get D (by omega : k ≤ fs.length), tabD_get D (by omega : o ≤ fs.length), tabR_get (D k) (by omega : o ≤ fs.length), tabR_get (D o) (by omega : k ≤ fs.length), w, tab_set D, map_self]
    have e := tab_set (n := fs.length) (updD D k o (mnI (D k o) (g.2.2.getD m (0, 0)).2)) o k (mnI (D o k) (-(g.2.2.getD m (0, 0)).1))
    rw [tabD_get _ (by omega : o ≤ fs.length), e]
    simp only [tabD_len, tabR_len]
    exact ⟨by omega, by omega, by omega, by omega, by omega, by omega, by omega, by omega, by omega, by omega, by omega, by omega, by omega, by omega, by omega, by omega, by omega, by omega, by omega, by omega, h⟩
  · have hc1 : ¬ 0 ≤ f.getD k 0 := of_decide_eq_false hc1
    unfold fStep at h
    rw [if_neg hc1] at h
    rw [map_self]
    exact h
theorem fw_ok {fs : Fans} {D : DM} (h5 : fs.length ≤ 5) (hD : ∀ a b, -10105 ≤ D a b) {Q : List (List Int) → Prop} (h : Q (tabD fs.length (fwK fs.length (fs.length + 1) D))) : V93fw fs (tabD fs.length D) Q := by
  unfold V93fw
  refine forLe (by omega) (fun k => tabD fs.length (fwK fs.length k D)) (map_self _) (fun k hk I μ hI hw => ?_) (by rw [map_self]; exact h)
  refine forLe (by omega) (fun i => tabD fs.length (fwI fs.length k i (fwK fs.length k D))) (map_self _) (fun i hi I₁ μ₁ hI₁ hw₁ => ?_) (by rw [map_self, hw]; exact hI)
  refine forLe (by omega) (fun j => tabD fs.length (fwJ k i j (fwI fs.length k i (fwK fs.length k D)))) (map_self _) (fun j hj I₂ μ₂ hI₂ hw₂ => ?_) (by rw [map_self, hw₁]; exact hI₁)
  have lo := low_all (n := fs.length) hD (k := k) (by omega) i j
  have hs : fwJ k i (j + 1) (fwI fs.length k i (fwK fs.length k D)) = fwS k i j (fwJ k i j (fwI fs.length k i (fwK fs.length k D))) := rfl
  rw [hs] at hI₂
  revert hI₂ lo
  generalize fwJ k i j (fwI fs.length k i (fwK fs.length k D)) = E
  intro hI₂ lo
  have l1 := lo i k
  have l2 := lo k j
  simp only [Int.toNat_natCast, hw₂, tabD_get E hi, tabD_get E hk, tabR_get (E i) hk, tabR_get (E k) hj, tabR_get (E i) hj, map_self]
  unfold fwS at hI₂
  refine ⟨by omega, by rw [tabD_len]; omega, by omega, by rw [tabR_len]; omega, cnd_iff.2 ⟨fun c1 => ⟨by omega, by rw [tabD_len]; omega, by omega, by rw [tabR_len]; omega, cnd_iff.2 ⟨fun c2 => ?_, fun c2 => ?_⟩⟩, fun c1 => ?_⟩⟩
  · have c1 := of_decide_eq_true c1
    have c2 := of_decide_eq_true c2
    rw [if_pos ⟨c1, c2⟩] at hI₂
    have w : IntKind.wrap .i64 (E i k + E k j) = E i k + E k j := wrapS (by omega) (by omega)
    simp only [w, tab_set E, map_self, tabD_len, tabR_len]
    exact ⟨by omega, by omega, by omega, by omega, by omega, by omega, by omega, by omega, by omega, by omega, by omega, by omega, by omega, by omega, by omega, by omega, hI₂⟩
  · have c2 := of_decide_eq_false c2
    rw [if_neg (fun e => c2 e.2)] at hI₂
    exact hI₂
  · have c1 := of_decide_eq_false c1
    rw [if_neg (fun e => c1 e.1)] at hI₂
    exact hI₂
theorem p93 {g : Gauge} {fs : Fans} {m : Int} {f wrong : List Int} {Q : List (List Int) → Prop} (h : f93_wp (g, fs, m, f, wrong, ()) () Q) : V93 g fs m f wrong Q := by
  obtain ⟨⟨v, fd, hm0, hm1⟩, h⟩ := h
  simp only at v fd hm0 hm1 h
  obtain ⟨m, rfl⟩ : ∃ k : Nat, m = k := ⟨m.toNat, by omega⟩
  simp only [Int.toNat_natCast] at h
  have hm : m < g.1.length := by omega
  have h5 := v.f5
  have ho := v.off_v hm
  unfold V93
  intro hn
  refine forLe (by omega) (fun k => (List.range k).map fun i => tabR fs.length (startD i)) rfl (fun k hk I μ hI hw => ?_) ?_
  · refine forLe (by omega) (fun j => List.replicate j farD) rfl (fun j hj I₁ μ₁ hI₁ hw₁ => ?_) ?_
    · rw [hw₁, ← List.replicate_succ']
      refine ⟨by simp only [List.length_replicate, List.length_cons, List.length_nil]; omega, hI₁⟩
    · have e : (List.replicate (fs.length + 1) farD).set k 0 = tabR fs.length (startD k) := by
        unfold tabR
        have : List.replicate (fs.length + 1) farD = (List.range (fs.length + 1)).map fun _ => farD := List.ext_getElem (by rw [List.length_replicate, List.length_map, List.length_range]) fun a h1 h2 => by rw [List.getElem_replicate, List.getElem_map]
        rw [this, map_range_set]
        refine List.map_congr_left fun b _ => ?_
        show (if b = k then (0 : Int) else farD) = if k = b then 0 else farD
        by_cases hb : b = k
        · rw [if_pos hb, if_pos hb.symm]
        · rw [if_neg hb, if_neg (fun e => hb e.symm)]
      simp only [Int.toNat_natCast, hw, e, map_self]
      have e2 : ((List.range k).map fun i => tabR fs.length (startD i)) ++ [tabR fs.length (startD k)] = (List.range (k + 1)).map fun i => tabR fs.length (startD i) := by simp [List.range_succ]
      rw [e2]
      exact ⟨by omega, by simp only [List.length_replicate]; omega, by simp; omega, by simp, hI⟩
  · refine forUp (by omega) (fun k => tabD fs.length (knownD g fs m f wrong k)) (map_self _) (fun k hk I μ hI hw => ?_) ?_
    · show cnd (!hasF wrong k) _ _
      have hI' : I (k + 1 : Int) (tabD fs.length (fStep g m f k (gStep g fs m wrong k (knownD g fs m f wrong k)))) ∧ μ (k + 1 : Int) (tabD fs.length (fStep g m f k (gStep g fs m wrong k (knownD g fs m f wrong k)))) < μ k (tabD fs.length (knownD g fs m f wrong k)) := hI
      revert hI'
      generalize knownD g fs m f wrong k = D
      intro hI'
      have hv := v.fan_v (f := k) (m := m) hk hm
      have fl : (fs.getD k []).length = g.1.length := v.fan hk
      cases hwr : hasF wrong k
      · refine cnd_t rfl ?_
        unfold gStep at hI'
        simp only [hwr, Bool.false_eq_true, if_false] at hI'
        simp only [Int.toNat_natCast]
        have w1 : IntKind.wrap .i64 ((fs.getD k []).getD m 0 + g.1.getD m 0) = (fs.getD k []).getD m 0 + g.1.getD m 0 := wrapS (by omega) (by omega)
        have w2 : IntKind.wrap .i64 (g.1.getD m 0 - (fs.getD k []).getD m 0) = g.1.getD m 0 - (fs.getD k []).getD m 0 := wrapS (by omega) (by omega)
        have e := tab_set (n := fs.length) (updD D k fs.length ((fs.getD k []).getD m 0 + g.1.getD m 0)) fs.length k (g.1.getD m 0 - (fs.getD k []).getD m 0)
        rw [w1, w2, tabD_get D (by omega : k ≤ fs.length), tab_set D, tabD_get _ (Nat.le_refl fs.length), e]
        simp only [tabD_len, tabR_len]
        exact ⟨by omega, by omega, by omega, by omega, by omega, by omega, by omega, by omega, by omega, by omega, by omega, by omega, by omega, by omega, by omega, by omega, by omega, by omega, by omega, by omega, fam_ok v fd hm hk hw hI'⟩
      · refine cnd_f rfl ?_
        unfold gStep at hI'
        simp only [hwr, if_true] at hI'
        exact fam_ok v fd hm hk hw hI'
    · exact fw_ok h5 (known_low v hm wrong fs.length (Nat.le_refl _)) h
end Go.Proofs.Tw
set_option linter.unusedVariables false
set_option maxRecDepth 100000
namespace Go.Proofs.Tw
open Go Go.GX Go.Proofs
theorem p92 {d : List (List Int)} {Q : Bool → Prop} (h : f92_wp d () Q) : V92 d Q := by
  obtain ⟨⟨hl, hr⟩, h⟩ := h
  refine forUpGL (n := d.length) (fun k => ∀ j, j < k → 0 ≤ (d.getD j []).getD j 0) (fun j hj => absurd hj (Nat.not_lt_zero _)) (fun k hk hg hn I μ hI hw => ?_) (fun hg => ?_)
  · have hr := hr k hk
    simp only [Int.toNat_natCast]
    refine ⟨by omega, by omega, by omega, by omega, cnd_iff.2 ⟨fun h1 => ?_, fun h1 => ?_⟩⟩
    · have h1 := of_decide_eq_true h1
      have : canR d = false := by
        unfold canR
        rw [List.all_eq_false]
        exact ⟨k, List.mem_range.2 hk, by rw [decide_eq_true_eq]; omega⟩
      rwa [this] at h
    · have h1 := of_decide_eq_false h1
      rw [hw]
      refine hI fun j hj => ?_
      rcases Nat.lt_succ_iff_lt_or_eq.1 hj with h2 | rfl
      · exact hg j h2
      · omega
  · have : canR d = true := by
      unfold canR
      rw [List.all_eq_true]
      exact fun j hj => decide_eq_true (hg j (List.mem_range.1 hj))
    rwa [this] at h
theorem chase_rng {l : List Int} {n : Nat} (hl : l.length = n) (hr : ∀ i, i < n → -1 ≤ l.getD i 0 ∧ l.getD i 0 < n) {i : Nat} (hi : i < n) : ∀ k, -1 ≤ chaseF l k i ∧ chaseF l k i < n
  | 0 => by show -1 ≤ (i : Int) ∧ (i : Int) < n; omega
  | k + 1 => by
    have ih := chase_rng hl hr hi k
    show -1 ≤ (if 0 ≤ chaseF l k i then l.getD (chaseF l k i).toNat 0 else chaseF l k i) ∧ (if 0 ≤ chaseF l k i then l.getD (chaseF l k i).toNat 0 else chaseF l k i) < n
    split
    · exact hr _ (by omega)
    · exact ih
theorem chase_stop {l : List Int} {a : Int} {k : Nat} (h : chaseF l k a < 0) : ∀ j, chaseF l (k + j) a = chaseF l k a
  | 0 => rfl
  | j + 1 => by
    show (if 0 ≤ chaseF l (k + j) a then l.getD (chaseF l (k + j) a).toNat 0 else chaseF l (k + j) a) = _
    rw [chase_stop h j, if_neg (by omega)]
theorem p91 {l : List Int} {n : Int} {Q : Bool → Prop} (h : f91_wp (l, n, ()) () Q) : V91 l n Q := by
  obtain ⟨⟨hn0, hn1⟩, h⟩ := h
  simp only at hn0 hn1
  obtain ⟨n, rfl⟩ : ∃ k : Nat, n = k := ⟨n.toNat, by omega⟩
  have h : Q (famR l n) := h
  intro _
  refine cnd_iff.2 ⟨fun h1 => ?_, fun h1 => ?_⟩
  · have h1 : (l.length : Int) ≠ n := by simpa using h1
    have : famR l n = false := by unfold famR; rw [decide_eq_false (by omega), Bool.false_and]
    rwa [this] at h
  have h1 : (l.length : Int) = n := by simpa using h1
  have hl : l.length = n := by omega
  have e0 : famR l n = (l.all (inB (-1) (n - 1)) && (List.range n).all fun i => decide (chaseF l n i < 0)) := by unfold famR; rw [decide_eq_true hl, Bool.true_and]
  rw [e0] at h
  refine forUpG (n := n) (by omega) (fun k => ∀ j, j < k → inB (-1) ((n : Int) - 1) (l.getD j 0) = true) (fun j hj => absurd hj (Nat.not_lt_zero _)) (fun k hk hg I μ hI hw => ?_) (fun hg => ?_)
  · have w : IntKind.wrap .i64 ((n : Int) - 1) = n - 1 := wrapS (by omega) (by omega)
    refine ⟨by omega, by omega, ?_⟩
    show cnd (!inB (-1) (IntKind.wrap .i64 ((n : Int) - 1)) (l.getD ((k : Int).toNat) 0)) _ _
    simp only [w, Int.toNat_natCast, hw]
    cases hb : inB (-1) ((n : Int) - 1) (l.getD k 0)
    · refine cnd_t rfl ?_
      have : l.all (inB (-1) (n - 1)) = false := by
        rw [List.all_eq_false]
        exact ⟨l.getD k 0, getD_mem (by omega), by rw [hb]; simp⟩
      rw [this, Bool.false_and] at h
      exact h
    · refine cnd_f rfl (hI fun j hj => ?_)
      rcases Nat.lt_succ_iff_lt_or_eq.1 hj with h2 | rfl
      · exact hg j h2
      · exact hb
  · have hall : l.all (inB (-1) (n - 1)) = true := by
      rw [List.all_eq_true]
      intro x hx
      obtain ⟨j, hj, rfl⟩ := List.mem_iff_getElem.1 hx
      have := hg j (by omega)
      rwa [getD_lt hj] at this
    rw [hall, Bool.true_and] at h
    have hr : ∀ i, i < n → -1 ≤ l.getD i 0 ∧ l.getD i 0 < n := by
      intro i hi
      have := hg i hi
      unfold inB at this
      simp only [Bool.and_eq_true, decide_eq_true_eq] at this
      omega
    refine forUpG (n := n) (by omega) (fun k => ∀ j : Nat, j < k → chaseF l n j < 0) (fun j hj => absurd hj (Nat.not_lt_zero _)) (fun i hi hg I μ hI hw => ?_) (fun hg => ?_)
    · refine ⟨fun x a => ∃ k : Nat, k ≤ n ∧ x = k ∧ a = chaseF l k i, fun x _ => ((n : Int) - x).toNat, ⟨0, by omega, rfl, rfl⟩, ?_⟩
      rintro x a ⟨k, hk, rfl, rfl⟩
      have rg := chase_rng hl hr hi k
      have bad : 0 ≤ chaseF l n i → Q false := by
        intro hc
        have : ((List.range n).all fun i => decide (chaseF l n i < 0)) = false := by
          rw [List.all_eq_false]
          exact ⟨i, List.mem_range.2 hi, by rw [decide_eq_true_eq]; omega⟩
        rwa [this] at h
      have good : chaseF l n i < 0 → I (IntKind.wrap .i64 ((i : Int) + 1)) ∧ μ (IntKind.wrap .i64 ((i : Int) + 1)) < μ i := by
        intro hc
        rw [hw]
        refine hI fun j hj => ?_
        rcases Nat.lt_succ_iff_lt_or_eq.1 hj with h2 | rfl
        · exact hg j h2
        · exact hc
      refine cnd_iff.2 ⟨fun c1 => cnd_iff.2 ⟨fun c2 => ?_, fun c2 => ?_⟩, fun c1 => cnd_iff.2 ⟨fun c2 => ?_, fun c2 => ?_⟩⟩
      · have c1 := of_decide_eq_true c1
        have c2 := of_decide_eq_true c2
        have w : IntKind.wrap .i64 ((k : Int) + 1) = ((k + 1 : Nat) : Int) := by rw [wrapS (by omega) (by omega)]; push_cast; rfl
        rw [w]
        refine ⟨by omega, by omega, ⟨k + 1, by omega, rfl, ?_⟩, by show ((n : Int) - ((k + 1 : Nat) : Int)).toNat < ((n : Int) - k).toNat; omega⟩
        show _ = if 0 ≤ chaseF l k i then l.getD (chaseF l k i).toNat 0 else chaseF l k i
        rw [if_pos (by omega)]
      · have c2 := of_decide_eq_false c2
        refine cnd_f (decide_eq_false c2) (good ?_)
        have := chase_stop (l := l) (a := i) (k := k) (by omega) (n - k)
        rw [show k + (n - k) = n by omega] at this
        omega
      · have c1 := of_decide_eq_false c1
        have c2 := of_decide_eq_true c2
        have : k = n := by omega
        subst this
        exact bad c2
      · have c1 := of_decide_eq_false c1
        have c2 := of_decide_eq_false c2
        have : k = n := by omega
        subst this
        exact good (by omega)
    · have : ((List.range n).all fun i => decide (chaseF l n i < 0)) = true := by
        rw [List.all_eq_true]
        exact fun j hj => decide_eq_true (hg j (List.mem_range.1 hj))
      rwa [this] at h
theorem can_tab (n : Nat) (D : DM) (h5 : n ≤ 5) : f92_wp (tabD n D) () fun r => r = canR (tabD n D) :=
  ⟨⟨by rw [tabD_len]; omega, fun i hi => by rw [tabD_len] at hi; rw [tabD_get D (by omega), tabR_len]; exact hi⟩, rfl⟩
theorem p39 {g : Gauge} {fs : Fans} {f : Fam} {Q : Bool → Prop} (h : f39_wp (g, fs, f, ()) () Q) : V39 g fs f Q := by
  obtain ⟨⟨v, fd⟩, h⟩ := h
  simp only at v fd
  have h : Q (rightR g fs f) := h
  have n4 := v.n4
  refine forUpGL (n := g.1.length) (fun k => ∀ j, j < k → canP g fs f j [] = true) (fun j hj => absurd hj (Nat.not_lt_zero _)) (fun k hk hg hn I μ hI hw => ?_) (fun hg => ?_)
  · refine ⟨⟨v, fd, by simp only; omega, by simp only; omega⟩, ?_⟩
    refine ⟨(can_tab fs.length (apartD g fs k f []) v.f5).1, ?_⟩
    show cnd (!canP g fs f k []) _ _
    cases hb : canP g fs f k []
    · refine cnd_t rfl ?_
      have : rightR g fs f = false := by
        unfold rightR
        rw [List.all_eq_false]
        exact ⟨k, List.mem_range.2 hk, by rw [hb]; simp⟩
      rwa [this] at h
    · refine cnd_f rfl ?_
      rw [hw]
      refine hI fun j hj => ?_
      rcases Nat.lt_succ_iff_lt_or_eq.1 hj with h2 | rfl
      · exact hg j h2
      · exact hb
  · have : rightR g fs f = true := by
      unfold rightR
      rw [List.all_eq_true]
      exact fun j hj => hg j (List.mem_range.1 hj)
    rwa [this] at h
theorem apart_low {g : Gauge} {fs : Fans} {m : Nat} {f : Fam} (v : VB g fs) (hm : m < g.1.length) (wrong : List Int) (a b : Nat) : -471458880 ≤ apartD g fs m f wrong a b := by
  have := low_K (n := fs.length) (known_low v hm wrong (f := f) fs.length (Nat.le_refl _)) (fs.length + 1) a b
  have h5 := v.f5
  have h2 : 6 ^ (fs.length + 1) ≤ 6 ^ 6 := Nat.pow_le_pow_right (by omega) (by omega)
  have h3 : (6 : Nat) ^ 6 = 46656 := rfl
  have h4 : 10105 * 6 ^ (fs.length + 1) ≤ 471458880 := by omega
  unfold apartD
  omega
theorem upd_far {D : DM} (h : ∀ a b, D a b ≤ farD) (i j : Nat) {v : Int} (hv : v ≤ farD) : ∀ a b, updD D i j v a b ≤ farD := by
  intro a b
  rcases updD_cases D i j v a b with ⟨_, _, e⟩ | ⟨_, e⟩
  · rw [e]; exact hv
  · rw [e]; exact h a b
theorem known_far {g : Gauge} {fs : Fans} {m : Nat} {f : Fam} (v : VB g fs) (hm : m < g.1.length) (wrong : List Int) : ∀ k, k ≤ fs.length → ∀ a b, knownD g fs m f wrong k a b ≤ farD
  | 0, _, a, b => by show (if a = b then (0 : Int) else farD) ≤ farD; split <;> decide
  | k + 1, hk, a, b => by
    have ih := known_far v hm wrong (f := f) k (by omega)
    have hc := v.copy_v hm
    have ho := v.off_v hm
    have hv := v.fan_v (f := k) (m := m) (by omega) hm
    have g1 : ∀ a b, gStep g fs m wrong k (knownD g fs m f wrong k) a b ≤ farD := by
      unfold gStep
      split
      · exact ih
      · exact upd_far (upd_far ih _ _ (by show _ ≤ (1073741824 : Int); omega)) _ _ (by show _ ≤ (1073741824 : Int); omega)
    show fStep g m f k (gStep g fs m wrong k (knownD g fs m f wrong k)) a b ≤ farD
    generalize gStep g fs m wrong k (knownD g fs m f wrong k) = E at g1
    unfold fStep
    split
    · refine upd_far (upd_far g1 _ _ ?_) _ _ ?_ a b
      · have := mn_cases (E k (f.getD k 0).toNat) (g.2.2.getD m (0, 0)).2
        have := g1 k (f.getD k 0).toNat
        omega
      · have := mn_cases (E (f.getD k 0).toNat k) (-(g.2.2.getD m (0, 0)).1)
        have := g1 (f.getD k 0).toNat k
        omega
    · exact g1 a b
theorem fwS_le (k i j : Nat) (D : DM) (a b : Nat) : fwS k i j D a b ≤ D a b := by
  unfold fwS
  split
  · rcases updD_cases D i j (mnI (D i j) (D i k + D k j)) a b with ⟨rfl, rfl, e⟩ | ⟨_, e⟩
    · rw [e]; exact (mn_cases _ _).2.1
    · rw [e]; exact Int.le_refl _
  · exact Int.le_refl _
theorem fwJ_le (k i : Nat) (D : DM) (a b : Nat) : ∀ j, fwJ k i j D a b ≤ D a b
  | 0 => Int.le_refl _
  | j + 1 => Int.le_trans (fwS_le k i j _ a b) (fwJ_le k i D a b j)
theorem fwI_le (n k : Nat) (D : DM) (a b : Nat) : ∀ i, fwI n k i D a b ≤ D a b
  | 0 => Int.le_refl _
  | i + 1 => Int.le_trans (fwJ_le k i _ a b (n + 1)) (fwI_le n k D a b i)
theorem fwK_le (n : Nat) (D : DM) (a b : Nat) : ∀ k, fwK n k D a b ≤ D a b
  | 0 => Int.le_refl _
  | k + 1 => Int.le_trans (fwI_le n k _ a b (n + 1)) (fwK_le n D a b k)
theorem apart_far {g : Gauge} {fs : Fans} {m : Nat} {f : Fam} (v : VB g fs) (hm : m < g.1.length) (wrong : List Int) (a b : Nat) : apartD g fs m f wrong a b ≤ farD :=
  Int.le_trans (fwK_le _ _ a b _) (known_far v hm wrong fs.length (Nat.le_refl _) a b)
theorem p40 {g : Gauge} {fs : Fans} {f : Fam} {m i : Int} {Q : Span → Prop} (h : f40_wp (g, fs, f, m, i, ()) () Q) : V40 g fs f m i Q := by
  obtain ⟨⟨v, fd, h1, h2, h3, h4⟩, h⟩ := h
  simp only at v fd h1 h2 h3 h4
  obtain ⟨m, rfl⟩ : ∃ k : Nat, m = k := ⟨m.toNat, by omega⟩
  obtain ⟨i, rfl⟩ : ∃ k : Nat, i = k := ⟨i.toNat, by omega⟩
  have h : Q (truthR g fs f m i) := h
  have hm : m < g.1.length := by omega
  refine ⟨⟨v, fd, by simp only; omega, by simp only; omega⟩, ?_⟩
  have lo := apart_low v hm (f := f) [] fs.length i
  have hi := apart_far v hm (f := f) [] fs.length i
  have hi : apartD g fs m f [] fs.length i ≤ 1073741824 := hi
  have w : IntKind.wrap .i64 (Int.sub 0 (apartD g fs m f [] fs.length i)) = -(apartD g fs m f [] fs.length i) := by
    show IntKind.wrap .i64 (0 - apartD g fs m f [] fs.length i) = _; rw [wrapS (by omega) (by omega)]; omega
  simp only [Int.toNat_natCast, tabD_get _ (Nat.le_refl fs.length), tabD_get _ (show i ≤ fs.length by omega), tabR_get _ (Nat.le_refl fs.length), tabR_get _ (show i ≤ fs.length by omega), tabD_len, tabR_len, w]
  exact ⟨by omega, by omega, by omega, by omega, by omega, by omega, by omega, by omega, h⟩
theorem p38 {g : Gauge} {fs : Fans} {l : List Int} {Q : Int → Prop} (h : f38_wp (g, fs, l, ()) () Q) : V38 g fs l Q := by
  obtain ⟨hl, h⟩ := h
  simp only at hl
  have h : Q (familyF g fs l) := h
  unfold familyF at h
  show cnd (checkF g fs != 0) (Q (checkF g fs)) _
  refine cnd_iff.2 ⟨fun hc => ?_, fun hc => ?_⟩
  · have hc : checkF g fs ≠ 0 := by simpa using hc
    rwa [if_pos hc] at h
  · have hc : checkF g fs = 0 := by simpa using hc
    rw [if_neg (by simp [hc])] at h
    intro _
    refine ⟨⟨by simp only; omega, by simp only; omega⟩, ?_⟩
    show cnd (!famR l ((fs.length : Int).toNat)) _ _
    rw [Int.toNat_natCast]
    cases hb : famR l fs.length
    · rw [if_pos hb] at h; exact cnd_t rfl h
    · rw [if_neg (by rw [hb]; simp)] at h; exact cnd_f rfl h
theorem p42 {g : Gauge} {fs : Fans} {f : Fam} {Q : List Slip → Prop} (h : f42_wp (g, fs, f, ()) () Q) : V42 g fs f Q := by
  obtain ⟨⟨v, fd⟩, h⟩ := h
  simp only at v fd
  have h : Q (blameFR g.1.length fs.length (canP g fs f)) := h
  have f5 := v.f5
  have n4 := v.n4
  intro hl
  refine sets82 f5 fun R hRd => ?_
  have hR : R.length ≤ 100000 := hRd ▸ setsR_len f5
  have hlen : ∀ s, s ∈ R → s.length ≤ 5 := fun s hs => setsR_le f5 s (hRd ▸ hs)
  have h : Q ((List.range g.1.length).flatMap fun m => ((R.find? (canP g fs f m)).getD []).map fun x => ((m : Int), x)) := by rw [hRd]; exact h
  obtain ⟨bl, hbl⟩ : ∃ bl : Nat → List Slip, bl = fun m => ((R.find? (canP g fs f m)).getD []).map fun x => ((m : Int), x) := ⟨_, rfl⟩
  rw [← hbl] at h
  have step : ∀ m, (List.range (m + 1)).flatMap bl = (List.range m).flatMap bl ++ bl m := fun m => by rw [List.range_succ, List.flatMap_append]; simp
  have bl5 : ∀ m, (bl m).length ≤ 5 := by
    intro m
    rw [hbl]
    simp only [List.length_map]
    cases hf : R.find? (canP g fs f m) with
    | none => simp
    | some s => exact hlen s (List.mem_of_find?_eq_some hf)
  refine forUpL (n := g.1.length) (fun m => (List.range m).flatMap bl) rfl (fun m hm I μ hI hw => ?_) h
  rw [step] at hI
  have hol := flat_len bl 5 (List.range m) (fun n _ => bl5 n)
  rw [List.length_range] at hol
  generalize (List.range m).flatMap bl = out at *
  refine ⟨fun x l => ∃ j : Nat, j ≤ R.length ∧ x = j ∧ l = out ∧ ∀ j', j' < j → canP g fs f m (R.getD j' []) = false, fun x _ => (R.length - x).toNat, ⟨0, Nat.zero_le _, rfl, rfl, fun j' hj => absurd hj (Nat.not_lt_zero _)⟩, ?_⟩
  rintro x l ⟨j, hj, rfl, rfl, hno⟩ _
  have pre : ∀ {j : Nat}, j ≤ R.length → (∀ j', j' < j → canP g fs f m (R.getD j' []) = false) → (R.take j).find? (canP g fs f m) = none := by
    intro j hj hno
    rw [List.find?_eq_none]
    intro s hs
    obtain ⟨i, hi, rfl⟩ := List.mem_iff_getElem.1 hs
    rw [List.length_take] at hi
    have := hno i (by omega)
    rw [getD_lt (by omega)] at this
    rw [List.getElem_take, this]; simp
  refine cnd_iff.2 ⟨fun hc => ?_, fun hc => ?_⟩
  · have hc := of_decide_eq_true hc
    have hjl : j < R.length := by omega
    have hs5 : (R.getD j []).length ≤ 5 := hlen _ (getD_mem hjl)
    have found : canP g fs f m (R.getD j []) = true → bl m = (R.getD j []).map fun x => ((m : Int), x) := by
      intro hp
      rw [hbl]
      simp only
      have hsp : R = R.take j ++ R.getD j [] :: R.drop (j + 1) := by
        rw [getD_lt hjl, ← List.drop_eq_getElem_cons hjl, List.take_append_drop]
      have : R.find? (canP g fs f m) = some (R.getD j []) := by
        rw [hsp, List.find?_append, pre (by omega) hno, ← hsp, List.find?_cons, hp]; rfl
      rw [this]; rfl
    have go : canP g fs f m (R.getD j []) = true → (f87_wp ((m : Int), R.getD j [], ()) () fun r => (l.length + r.length) * 16 ≤ 140737488355328 ∧ I (IntKind.wrap .i64 ((m : Int) + 1)) (l ++ r) ∧ μ (IntKind.wrap .i64 ((m : Int) + 1)) (l ++ r) < μ m l) := by
      intro hp
      rw [found hp] at hI
      refine ⟨by simp only; omega, ?_⟩
      rw [hw]
      exact ⟨by simp only [List.length_map]; omega, hI⟩
    simp only [Int.toNat_natCast]
    refine ⟨by omega, by omega, tabD fs.length (apartD g fs m f (R.getD j [])), ⟨⟨v, fd, by simp only; omega, by simp only; omega⟩, by simp⟩, canP g fs f m (R.getD j []), can_tab _ _ v.f5, cnd_iff.2 ⟨fun h1 => ⟨by omega, by omega, go h1⟩, fun h1 => ?_⟩⟩
    have hwj : IntKind.wrap .i64 ((j : Int) + 1) = ((j + 1 : Nat) : Int) := by rw [wrapS (by omega) (by omega)]; push_cast; rfl
    rw [hwj]
    refine ⟨⟨j + 1, by omega, rfl, by trivial, fun j' hj' => ?_⟩, by omega⟩
    rcases Nat.lt_succ_iff_lt_or_eq.1 hj' with h6 | rfl
    · exact hno j' h6
    · exact h1
  · have hc := of_decide_eq_false hc
    have : j = R.length := by omega
    subst this
    have h0 := pre (Nat.le_refl _) hno
    rw [List.take_length] at h0
    have : bl m = [] := by rw [hbl]; simp only; rw [h0]; rfl
    rw [this, List.append_nil] at hI
    rw [hw]; exact hI
end Go.Proofs.Tw
set_option linter.unusedVariables false
namespace Go.Proofs.Tw
open Go Go.GX Go.Proofs
theorem hasF_snoc (l : List Int) (a b : Int) : hasF (l ++ [a]) b = (hasF l b || b == a) := by simp [hasF]
theorem hasF_nil (b : Int) : hasF [] b = false := rfl

inductive OrdP (f : Fam) : List Int → Prop
  | nil : OrdP f []
  | snoc {l : List Int} {n : Nat} : OrdP f l → n < f.length → hasF l n = false → (f.getD n 0 = -1 ∨ hasF l (f.getD n 0) = true) → OrdP f (l ++ [(n : Int)])
theorem ordP_step {f : Fam} {l : List Int} (h : OrdP f l) {n : Nat} (hn : n < f.length) : OrdP f (orderStep f l n) := by
  unfold orderStep
  split
  · rename_i hc
    simp only [Bool.and_eq_true, Bool.or_eq_true, Bool.not_eq_true', beq_iff_eq] at hc
    exact .snoc h hn hc.1 hc.2
  · exact h
theorem ordP_fold {f : Fam} : ∀ (ns : List Nat) {l : List Int}, OrdP f l → (∀ n, n ∈ ns → n < f.length) → OrdP f (ns.foldl (orderStep f) l)
  | [], _, h, _ => h
  | n :: ns, l, h, hn => ordP_fold ns (ordP_step h (hn n (List.mem_cons_self ..))) fun m hm => hn m (List.mem_cons_of_mem _ hm)
theorem ordP_N (f : Fam) : ∀ k, OrdP f (orderN f k)
  | 0 => .nil
  | k + 1 => ordP_fold _ (ordP_N f k) fun n hn => List.mem_range.1 hn
theorem countP_or (p : Nat → Bool) (n : Nat) (hp : p n = false) : ∀ N, (List.range N).countP (fun i => p i || decide (i = n)) = (List.range N).countP p + if n < N then 1 else 0
  | 0 => rfl
  | N + 1 => by
    rw [List.range_succ, List.countP_append, List.countP_append, countP_or p n hp N]
    by_cases h : N = n
    · subst h
      simp [hp]
    · by_cases h2 : n < N
      · have e : decide (N = n) = false := decide_eq_false h
        rw [if_pos h2, if_pos (by omega)]
        simp [e]; omega
      · have e : decide (N = n) = false := decide_eq_false h
        rw [if_neg h2, if_neg (by omega)]
        simp [e]
theorem ordP_cnt {f : Fam} {l : List Int} (h : OrdP f l) : ((List.range f.length).countP fun i : Nat => hasF l i) = l.length := by
  induction h with
  | nil => simp [hasF_nil]
  | @snoc l n _ hn hf _ ih =>
    have e : (fun i : Nat => hasF (l ++ [(n : Int)]) i) = fun i : Nat => hasF l i || decide (i = n) := by
      funext i
      rw [hasF_snoc]
      congr 1
      rw [Bool.eq_iff_iff]; simp; omega
    rw [e, countP_or (fun i : Nat => hasF l i) n hf, ih, if_pos hn]; simp
theorem ordP_all {f : Fam} {l : List Int} (h : OrdP f l) : l.length = f.length ↔ ∀ i : Nat, i < f.length → hasF l i = true := by
  rw [← ordP_cnt h]
  have := List.countP_eq_length (p := fun i : Nat => hasF l i) (l := List.range f.length)
  rw [List.length_range] at this
  rw [this]
  exact ⟨fun h i hi => h i (List.mem_range.2 hi), fun h i hi => h i (List.mem_range.1 hi)⟩
theorem chase_shift (f : List Int) (a : Int) : ∀ k, chaseF f (k + 1) a = chaseF f k (if 0 ≤ a then f.getD a.toNat 0 else a)
  | 0 => rfl
  | k + 1 => by
    show (if 0 ≤ chaseF f (k + 1) a then f.getD (chaseF f (k + 1) a).toNat 0 else chaseF f (k + 1) a) = _
    rw [chase_shift f a k]; rfl
theorem chase_neg {f : List Int} {a : Int} (h : a < 0) : ∀ k, chaseF f k a = a
  | 0 => rfl
  | k + 1 => by rw [chase_shift, if_neg (by omega), chase_neg h k]
theorem ordP_chase {f : Fam} {l : List Int} (h : OrdP f l) : ∀ x, hasF l x = true → chaseF f l.length x < 0 ∧ 0 ≤ x ∧ x < f.length := by
  induction h with
  | nil => intro x hx; cases hx
  | @snoc l n hl hn hf hp ih =>
    intro x hx
    rw [hasF_snoc, Bool.or_eq_true] at hx
    have len : (l ++ [(n : Int)]).length = l.length + 1 := by simp
    rw [len]
    rcases hx with hx | hx
    · obtain ⟨h1, h2, h3⟩ := ih x hx
      refine ⟨?_, h2, h3⟩
      rw [chase_stop h1 1]; exact h1
    · have hx : x = n := by simpa using hx
      subst hx
      refine ⟨?_, by omega, by omega⟩
      rw [chase_shift, if_pos (by omega), Int.toNat_natCast]
      rcases hp with hp | hp
      · rw [hp, chase_neg (by omega)]; omega
      · exact (ih _ hp).1
theorem has_step {f : Fam} {l : List Int} {x : Int} (h : hasF l x = true) (n : Nat) : hasF (orderStep f l n) x = true := by
  unfold orderStep
  split
  · rw [hasF_snoc, h]; rfl
  · exact h
theorem has_fold {f : Fam} {x : Int} : ∀ (ns : List Nat) {l : List Int}, hasF l x = true → hasF (ns.foldl (orderStep f) l) x = true
  | [], _, h => h
  | n :: ns, l, h => has_fold ns (has_step h n)
theorem has_new {f : Fam} {i : Nat} : ∀ (ns : List Nat) {l : List Int}, i ∈ ns → (f.getD i 0 = -1 ∨ hasF l (f.getD i 0) = true) → hasF (ns.foldl (orderStep f) l) i = true
  | n :: ns, l, hi, hp => by
    rcases List.mem_cons.1 hi with rfl | hi
    · refine has_fold ns ?_
      unfold orderStep
      split
      · rw [hasF_snoc]; simp
      · rename_i hc
        cases hh : hasF l i
        · refine absurd ?_ hc
          rw [hh]
          simp only [Bool.not_false, Bool.true_and, Bool.or_eq_true, beq_iff_eq]
          exact hp
        · rfl
    · exact has_new ns hi (hp.imp_right fun h => has_step h n)
theorem has_N {f : Fam} (hr : ∀ i, i < f.length → -1 ≤ f.getD i 0 ∧ f.getD i 0 < f.length) : ∀ k (i : Nat), i < f.length → chaseF f k i < 0 → hasF (orderN f k) i = true
  | 0, i, _, h => by have h : (i : Int) < 0 := h; omega
  | k + 1, i, hi, h => by
    rw [chase_shift, if_pos (by omega), Int.toNat_natCast] at h
    have hri := hr i hi
    refine has_new _ (List.mem_range.2 hi) ?_
    by_cases hp : f.getD i 0 < 0
    · exact .inl (by omega)
    · obtain ⟨o, ho⟩ : ∃ o : Nat, f.getD i 0 = o := ⟨(f.getD i 0).toNat, by omega⟩
      rw [ho] at h hri ⊢
      exact .inr (has_N hr k o (by omega) h)
theorem okOrd_iff {f : Fam} (hr : ∀ i, i < f.length → -1 ≤ f.getD i 0 ∧ f.getD i 0 < f.length) : okOrd f = (List.range f.length).all fun i => decide (chaseF f f.length i < 0) := by
  rw [Bool.eq_iff_iff]
  unfold okOrd
  rw [decide_eq_true_eq, List.all_eq_true]
  have ho := ordP_N f f.length
  constructor
  · intro hl i hi
    have hall := (ordP_all ho).1 hl i (List.mem_range.1 hi)
    have := (ordP_chase ho i hall).1
    have e : (orderN f f.length).length = f.length := hl
    rw [e] at this
    exact decide_eq_true this
  · intro hc
    exact (ordP_all ho).2 fun i hi => has_N hr _ i hi (of_decide_eq_true (hc i (List.mem_range.2 hi)))
theorem inB_rng {f : List Int} {n : Nat} (hl : f.length = n) (h : f.all (inB (-1) ((n : Int) - 1)) = true) : ∀ i, i < f.length → -1 ≤ f.getD i 0 ∧ f.getD i 0 < f.length := by
  intro i hi
  have := List.all_eq_true.1 h _ (getD_mem (d := 0) hi)
  unfold inB at this
  simp only [Bool.and_eq_true, decide_eq_true_eq] at this
  omega
theorem fam_eq (l : List Int) (n : Nat) : famR l n = isFamF l n := by
  unfold famR isFamF
  by_cases hl : l.length = n
  · cases hb : l.all (inB (-1) ((n : Int) - 1))
    · simp
    · have := okOrd_iff (inB_rng hl hb)
      rw [this, hl]; simp
  · simp [hl]

theorem fam_of {fs : Fans} {f : Fam} (h : isFamF f fs.length = true) : FamD fs f ∧ FOK fs f ∧ OrdP f (orderF f) ∧ ∀ i : Nat, i < f.length → hasF (orderF f) i = true := by
  unfold isFamF at h
  simp only [Bool.and_eq_true, decide_eq_true_eq] at h
  obtain ⟨⟨hl, hb⟩, ho⟩ := h
  have hr := inB_rng hl hb
  have hP := ordP_N f f.length
  have hoo : (orderF f).length = f.length := by unfold okOrd at ho; exact of_decide_eq_true ho
  refine ⟨⟨hl, fun i hi => ⟨(hr i hi).1, (hr i hi).2, fun e => ?_⟩⟩, ⟨hl, fun x hx => ?_⟩, hP, (ordP_all hP).1 hoo⟩
  · have hc := okOrd_iff hr
    rw [ho] at hc
    have hc := of_decide_eq_true (List.all_eq_true.1 hc.symm i (List.mem_range.2 hi))
    have : ∀ k, chaseF f k i = i := by
      intro k
      induction k with
      | zero => rfl
      | succ k ih => rw [chase_shift, if_pos (by omega), Int.toNat_natCast, e, ih]
    rw [this] at hc; omega
  · obtain ⟨j, hj, rfl⟩ := List.mem_iff_getElem.1 hx
    have := hr j hj
    rwa [getD_lt hj] at this
end Go.Proofs.Tw
