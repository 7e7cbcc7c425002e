/- Part 1 of the texts behind the proof: Gx0, GxM, Gx1, Gx2, Gx3, Gx4, Gx5. -/
import Derived.Below
import Derived.Carry
import Derived.Shelf.Abstract
import Derived.Laws.OwnMore
import Derived.Laws.NewBlocks
import Derived.CallsIn
import Derived.RangeFuncStops
set_option linter.unusedSimpArgs false
set_option linter.unusedVariables false
set_option linter.unusedSectionVars false
set_option linter.unusedVariables false
namespace Go.GX
open Go.RowKit Go.Shelf Go.Proofs

inductive Kd where
  | int (k : IntKind)
  | bool
  | str
  | sl (e : TypeId) (K : Kd)
  | nsl (e : TypeId) (K : Kd)
  | pair (A B : Kd)
  | unit
  | agg (K : Kd)
  | fn (A R : Kd)
  | ptr (ty : TypeId) (K : Kd)
  | seq (A : Kd)
  | mem (K : Kd)
  deriving DecidableEq

def Kd.T : Kd → Type
  | .int _ => Int
  | .bool => Bool
  | .str => ByteArray
  | .sl _ K => List K.T
  | .nsl _ K => Option (List K.T)
  | .pair A B => A.T × B.T
  | .unit => Unit
  | .agg K => K.T
  | .fn A R => A.T → (R.T → Prop) → Prop
  | .ptr _ K => K.T
  | .seq A => List A.T
  | .mem K => List K.T

def Kd.dflt : (K : Kd) → K.T
  | .int _ => (0 : Int)
  | .bool => false
  | .str => ByteArray.empty
  | .sl _ _ => []
  | .nsl _ _ => none
  | .pair A B => (A.dflt, B.dflt)
  | .unit => ()
  | .agg K => K.dflt
  | .fn _ _ => fun _ _ => False
  | .ptr _ K => K.dflt
  | .seq _ => []
  | .mem _ => []

def Kd.n : Kd → Nat
  | .pair A B => A.n + B.n
  | .unit => 0
  | .agg K => K.n
  | _ => 1

def Kd.flat : Kd → Bool
  | .int _ | .bool | .str | .unit => true
  | .pair A B => A.flat && B.flat
  | .agg K => K.flat
  | _ => false

def castT {K K' : Kd} (h : K = K') (x : K.T) : K'.T := h ▸ x
def castL {K K' : Kd} (h : K = K') (xs : List K.T) : List K'.T := h ▸ xs

def Kd.fc : (K : Kd) → K.T → List Value
  | .int k, x => [.int k x]
  | .bool, x => [.bool x]
  | .str, x => [.string x]
  | .pair A B, x => A.fc x.1 ++ B.fc x.2
  | .agg K, x => K.fc x
  | _, _ => []

theorem Kd.fc_length : ∀ (K : Kd), K.flat = true → ∀ x : K.T, (K.fc x).length = K.n
  | .int _, _, _ => rfl
  | .bool, _, _ => rfl
  | .str, _, _ => rfl
  | .unit, _, _ => rfl
  | .pair A B, h, x => by
    simp only [Kd.flat, Bool.and_eq_true] at h
    simp [Kd.fc, Kd.n, Kd.fc_length A h.1, Kd.fc_length B h.2]
  | .agg K, h, x => Kd.fc_length K h x
  | .sl _ _, h, _ => by simp [Kd.flat] at h
  | .nsl _ _, h, _ => by simp [Kd.flat] at h
  | .fn _ _, h, _ => by simp [Kd.flat] at h
  | .ptr _ _, h, _ => by simp [Kd.flat] at h
  | .seq _, h, _ => by simp [Kd.flat] at h
  | .mem _, h, _ => by simp [Kd.flat] at h

theorem Kd.fc_inj : ∀ (K : Kd), K.flat = true → ∀ {x y : K.T}, K.fc x = K.fc y → x = y
  | .int _, _, x, y, h => by injection h with h; injection h
  | .bool, _, x, y, h => by injection h with h; injection h
  | .str, _, x, y, h => by injection h with h; injection h
  | .unit, _, x, y, h => rfl
  | .pair A B, hf, x, y, h => by
    simp only [Kd.flat, Bool.and_eq_true] at hf
    obtain ⟨h1, h2⟩ := List.append_inj h (by rw [Kd.fc_length A hf.1, Kd.fc_length A hf.1])
    exact Prod.ext (Kd.fc_inj A hf.1 h1) (Kd.fc_inj B hf.2 h2)
  | .agg K, hf, x, y, h => Kd.fc_inj K hf h
  | .sl _ _, h, _, _, _ => by simp [Kd.flat] at h
  | .nsl _ _, h, _, _, _ => by simp [Kd.flat] at h
  | .fn _ _, h, _, _, _ => by simp [Kd.flat] at h
  | .ptr _ _, h, _, _, _ => by simp [Kd.flat] at h
  | .seq _, h, _, _, _ => by simp [Kd.flat] at h
  | .mem _, h, _, _, _ => by simp [Kd.flat] at h
end Go.GX
set_option linter.unusedVariables false
namespace Go.GX
open Go.RowKit Go.Shelf Go.Proofs

def memoK : Kd := .unit
def memoTy : TypeId := 0
def memoKeyK : Kd := .unit

def memoOn : Bool := false
def memoSpec : List memoK.T → memoKeyK.T → Int → Prop := fun _ _ _ => False
theorem memoK_flat : memoK.flat = true := rfl
theorem memoKeyK_flat : memoKeyK.flat = true := rfl
end Go.GX
set_option linter.unusedVariables false
namespace Go.GX
open Go.RowKit Go.Shelf Go.Proofs

structure BaseD where
  b : Nat
def base0 [Inhabited BaseD] : Nat := (default : BaseD).b
variable [Inhabited BaseD]

def NoMap (W : World) (k : Nat) : Prop := memoOn = true → ∀ es c, W.heap[k]? = some (.map es c) → k < base0

def PackAt (X : Nat → Prop) (W : World) (m : Nat) (xs : List memoK.T) : Prop :=
  (¬ X (m + 1) ∧ base0 ≤ m ∧ memoOn = true) ∧ ∃ A c, W.heap[m + 1]? = some (.cells #[.slice A xs.length c, .map (some m)] memoTy (0, 0)) ∧ (xs ≠ [] → ∃ ad, A = some ad ∧ ¬ X ad.block ∧ (∃ cs t fr, W.heap[(ad : Addr).block]? = some (.cells cs t fr)) ∧
    ∀ (j : Nat) x, xs[j]? = some x → ∀ (i : Nat) u, (memoK.fc x)[i]? = some u → W.cell? (ad.add (j * memoK.n + i)) = some u)

def GoodAt (W : World) (m : Nat) (xs : List memoK.T) : Prop :=
  ∃ es c, W.heap[m]? = some (Obj.map es c) ∧ ∀ e ∈ es.toList, ∃ key val, e.key = .agg (memoKeyK.fc key).toArray ∧ e.val = .int .i64 val ∧ memoSpec xs key val

theorem PackAt.unique {X X' : Nat → Prop} {W : World} {m : Nat} {xs ys : List memoK.T} (h : PackAt X W m xs) (h' : PackAt X' W m ys) : xs = ys := by
  obtain ⟨_, A, c, h1, h2⟩ := h
  obtain ⟨_, A', c', h1', h2'⟩ := h'
  rw [h1] at h1'
  simp only [Option.some.injEq, Obj.cells.injEq, Array.mk.injEq, List.cons.injEq, Value.slice.injEq, and_true] at h1'
  obtain ⟨rfl, hl, rfl⟩ := h1'
  cases xs with
  | nil => cases ys with
    | nil => rfl
    | cons y ys => simp at hl
  | cons x xs =>
    obtain ⟨ad, hA, _, _, g⟩ := h2 (by simp)
    obtain ⟨ad', hA', _, _, g'⟩ := h2' (by intro h; rw [h] at hl; simp at hl)
    rw [hA] at hA'; cases hA'
    refine List.ext_getElem hl fun j hj hj' => Kd.fc_inj memoK memoK_flat (List.ext_getElem (by rw [Kd.fc_length _ memoK_flat, Kd.fc_length _ memoK_flat]) fun i hi hi' => ?_)
    have e1 := g j _ (List.getElem?_eq_getElem hj) i _ (List.getElem?_eq_getElem hi)
    have e2 := g' j _ (List.getElem?_eq_getElem hj') i _ (List.getElem?_eq_getElem hi')
    rw [e1] at e2
    exact Option.some.inj e2

structure Evo (X : Nat → Prop) (W : World) (X' : Nat → Prop) (W' : World) : Prop where
  size : W.heap.size ≤ W'.heap.size
  keep : ∀ k, (∃ cs t fr, W.heap[k]? = some (.cells cs t fr)) → ¬ X k → W'.heap[k]? = W.heap[k]?
  back : ∀ k, X' k → k < W.heap.size → X k
  low : ∀ k, X' k → k < W'.heap.size
  memo : ∀ m xs, PackAt X W m xs → GoodAt W m xs → GoodAt W' m xs

theorem cells_of_cell? {W : World} {a : Addr} {v : Value} (hc : W.cell? a = some v) : ∃ cs t fr, W.heap[a.block]? = some (.cells cs t fr) := by
  unfold World.cell? at hc
  split at hc
  · rename_i h; exact ⟨_, _, _, h⟩
  · cases hc

theorem add_block (a : Addr) (n : Nat) : (a.add n).block = a.block := by unfold Addr.add; split <;> rfl

theorem cells_lt {W : World} {k : Nat} (h : ∃ cs t fr, W.heap[k]? = some (.cells cs t fr)) : k < W.heap.size := let ⟨_, _, _, h⟩ := h; (Array.getElem?_eq_some_iff.1 h).1

theorem PackAt.keep {X X' : Nat → Prop} {W W' : World} {m : Nat} {xs : List memoK.T} (h : PackAt X W m xs)
    (hk : ∀ k, (∃ cs t fr, W.heap[k]? = some (.cells cs t fr)) → ¬ X k → W'.heap[k]? = W.heap[k]?) (hx : ∀ k, ¬ X k → (∃ cs t fr, W.heap[k]? = some (.cells cs t fr)) → ¬ X' k) : PackAt X' W' m xs := by
  obtain ⟨⟨h0, hb⟩, A, c, h1, h2⟩ := h
  refine ⟨⟨hx _ h0 ⟨_, _, _, h1⟩, hb⟩, A, c, (hk _ ⟨_, _, _, h1⟩ h0).trans h1, fun hne => ?_⟩
  obtain ⟨ad, hA, g0, g1, g⟩ := h2 hne
  refine ⟨ad, hA, hx _ g0 g1, let ⟨cs, t, fr, hc⟩ := g1; ⟨cs, t, fr, (hk _ ⟨cs, t, fr, hc⟩ g0).trans hc⟩, fun j x hj i u hu => ?_⟩
  have := g j x hj i u hu
  have hc := cells_of_cell? this
  rw [add_block] at hc
  exact (World.cell?_of_block (by rw [add_block]; exact hk _ hc g0)).trans this

theorem PackAt.mono {X X' : Nat → Prop} {W : World} {m : Nat} {xs : List memoK.T} (h : PackAt X W m xs) (hx : ∀ k, ¬ X k → (∃ cs t fr, W.heap[k]? = some (.cells cs t fr)) → ¬ X' k) : PackAt X' W m xs :=
  h.keep (fun _ _ _ => rfl) hx

theorem PackAt.lt {X : Nat → Prop} {W : World} {m : Nat} {xs : List memoK.T} (h : PackAt X W m xs) : m + 1 < W.heap.size := let ⟨_, _, _, h1, _⟩ := h; (Array.getElem?_eq_some_iff.1 h1).1

theorem GoodAt.keep {W W' : World} {m : Nat} {xs : List memoK.T} (h : GoodAt W m xs) (hk : ∀ k : Nat, (∃ es c, W.heap[k]? = some (Obj.map es c)) → W'.heap[k]? = W.heap[k]?) : GoodAt W' m xs :=
  let ⟨es, c, h1, h2⟩ := h; ⟨es, c, (hk m ⟨es, c, h1⟩).trans h1, h2⟩

theorem Evo.refl {X : Nat → Prop} {W : World} (h : ∀ k, X k → k < W.heap.size) : Evo X W X W := ⟨Nat.le_refl _, fun _ _ _ => rfl, fun _ h _ => h, h, fun _ _ _ h => h⟩

theorem Evo.trans {X X1 X2 : Nat → Prop} {W W1 W2 : World} (h : Evo X W X1 W1) (h' : Evo X1 W1 X2 W2) : Evo X W X2 W2 where
  size := Nat.le_trans h.size h'.size
  keep := fun k hk hx => by
    have h1 := h.keep k hk hx
    obtain ⟨cs, t, fr, hc⟩ := hk
    have hlt := (Array.getElem?_eq_some_iff.1 hc).1
    exact (h'.keep k ⟨cs, t, fr, h1.trans hc⟩ (fun hx1 => hx (h.back k hx1 hlt))).trans h1
  back := fun k hx2 hk => h.back k (h'.back k hx2 (Nat.lt_of_lt_of_le hk h.size)) hk
  low := h'.low
  memo := fun m xs hp hg => h'.memo m xs (hp.keep h.keep fun k hx hk hx1 => hx (h.back k hx1 (cells_lt hk))) (h.memo m xs hp hg)

theorem Evo.cell {X X' : Nat → Prop} {W W' : World} (h : Evo X W X' W') {a : Addr} {v : Value} (hx : ¬ X a.block) (hc : W.cell? a = some v) : W'.cell? a = some v :=
  (World.cell?_of_block (h.keep a.block (cells_of_cell? hc) hx)).trans hc

theorem Evo.notIn {X X' : Nat → Prop} {W W' : World} (h : Evo X W X' W') {k : Nat} (hx : ¬ X k) (hk : k < W.heap.size) : ¬ X' k := fun hx' => hx (h.back k hx' hk)

structure Bel (Bk : Nat → Prop) (w w' : World) : Prop where
  os : w'.os = w.os
  tape : w'.tape = w.tape
  output : w'.output = w.output
  size : w.heap.size ≤ w'.heap.size
  block : ∀ k, Bk k → NoMap w k → w'.heap[k]? = w.heap[k]?
  memo : ∀ m xs, PackAt (fun k => ¬ Bk k) w m xs → GoodAt w m xs → GoodAt w' m xs

abbrev BelM (w w' : World) : Prop := Bel (fun k => k < w.heap.size) w w'

theorem noMap_cells {W : World} {k : Nat} (h : ∃ cs t fr, W.heap[k]? = some (.cells cs t fr)) : NoMap W k := fun _ es c h' => by
  obtain ⟨_, _, _, h⟩ := h; rw [h] at h'; cases h'

theorem Bel.refl (Bk : Nat → Prop) (w : World) : Bel Bk w w := ⟨rfl, rfl, rfl, Nat.le_refl _, fun _ _ _ => rfl, fun _ _ _ h => h⟩

theorem Bel.trans {Bk : Nat → Prop} {a b c : World} (h : Bel Bk a b) (k : Bel Bk b c) : Bel Bk a c where
  os := k.os.trans h.os
  tape := k.tape.trans h.tape
  output := k.output.trans h.output
  size := Nat.le_trans h.size k.size
  block := fun i hi hn => (k.block i hi (fun hm es c' => by rw [h.block i hi hn]; exact hn hm es c')).trans (h.block i hi hn)
  memo := fun m xs hp hg => k.memo m xs (hp.keep (fun i hc hi => h.block i (Classical.byContradiction hi) (noMap_cells hc)) (fun _ hx _ => hx)) (h.memo m xs hp hg)

theorem Bel.mono {Bk Bk' : Nat → Prop} {a b : World} (h : Bel Bk a b) (hb : ∀ k, Bk' k → Bk k) : Bel Bk' a b :=
  ⟨h.os, h.tape, h.output, h.size, fun k hk => h.block k (hb k hk), fun m xs hp => h.memo m xs (hp.mono fun k hx _ hn => hx fun hh => hn (hb k hh))⟩

theorem Bel.ofBelow {w w' : World} (h : Below w.heap.size w w') : BelM w w' :=
  ⟨h.os, h.tape, h.output, h.size, fun k hk _ => h.block k hk, fun m xs hp hg => GoodAt.keep hg fun k hk => h.block k (let ⟨_, _, h'⟩ := hk; (Array.getElem?_eq_some_iff.1 h').1)⟩

theorem Bel.evoM {X : Nat → Prop} {W W' : World} (hX : ∀ k, X k → k < W.heap.size) (hb : BelM W W') : Evo X W X W' :=
  ⟨hb.size, fun k hk _ => hb.block k (let ⟨_, _, _, h⟩ := hk; (Array.getElem?_eq_some_iff.1 h).1) (noMap_cells hk), fun _ h _ => h, fun k hk => Nat.lt_of_lt_of_le (hX k hk) hb.size,
    fun m xs hp hg => hb.memo m xs (hp.mono fun _ _ hk hn => hn (cells_lt hk)) hg⟩

theorem Evo.below {X : Nat → Prop} {W W' : World} (hX : ∀ k, X k → k < W.heap.size) (hb : Below W.heap.size W W') : Evo X W X W' := (Bel.ofBelow hb).evoM hX

theorem Evo.mono {X X' : Nat → Prop} {W : World} (hX : ∀ k, X' k → k < W.heap.size) (h : ∀ k, X' k → X k) : Evo X W X' W :=
  ⟨Nat.le_refl _, fun _ _ _ => rfl, fun k hk _ => h k hk, hX, fun _ _ _ h => h⟩

def CallsV (P : Program) (v : Value) (vs : List Value) (W : World) (R : Ending → World → Prop) : Prop :=
  ∃ f fi cap, v = .func (.func f) fi cap ∧ Enters P f ∧ Calls P f (fi ++ vs.toArray ++ cap) W R

theorem CallsV.mono {P : Program} {v : Value} {vs : List Value} {W : World} {R R' : Ending → World → Prop} (h : CallsV P v vs W R) (hr : ∀ e w', R e w' → R' e w') : CallsV P v vs W R' :=
  let ⟨f, fi, cap, a, b, c⟩ := h; ⟨f, fi, cap, a, b, c.mono hr⟩

structure Turned (I : Nat → Prop) (W : World) (I' : Nat → Prop) (W' : World) : Prop where
  os : W'.os = W.os
  tape : W'.tape = W.tape
  output : W'.output = W.output
  size : W.heap.size ≤ W'.heap.size
  keep : ∀ k, k < W.heap.size → ¬ I k → NoMap W k → W'.heap[k]? = W.heap[k]?
  memo : ∀ m xs, PackAt I W m xs → GoodAt W m xs → GoodAt W' m xs
  new : ∀ k, I' k → I k ∨ (W.heap.size ≤ k ∧ k < W'.heap.size)

structure Kept (X : Nat → Prop) (W0 : World) (I : Nat → Prop) (W W' : World) : Prop where
  os : W'.os = W.os
  tape : W'.tape = W.tape
  output : W'.output = W.output
  size : W.heap.size ≤ W'.heap.size
  own : ∀ k, I k → NoMap W k → W'.heap[k]? = W.heap[k]?
  old : ∀ k, (∃ cs t fr, W.heap[k]? = some (.cells cs t fr)) → k < W0.heap.size → ¬ X k → W'.heap[k]? = W.heap[k]?
  memo : ∀ m xs, PackAt (fun k => ¬ (I k ∨ (k < W0.heap.size ∧ ¬ X k))) W m xs → GoodAt W m xs → GoodAt W' m xs

structure TurnE (I E : Nat → Prop) (W : World) (I' E' : Nat → Prop) (W' : World) : Prop where
  t : Turned I W I' W'
  more : ∀ k, E k → E' k
  new : ∀ k, E' k → E k ∨ (W.heap.size ≤ k ∧ k < W'.heap.size)

def yVX (gv : Bool) (X : Nat → Prop) (W0 : World) (I E : Nat → Prop) (W : World) (k : Nat) : Prop :=
  match gv with
  | false => ¬ I k
  | true => k < W.heap.size ∧ (I k ∨ ¬ (E k ∨ (k < W0.heap.size ∧ ¬ X k)))

def Kd.giv : Kd → Bool
  | .agg K => !K.flat
  | .pair (.sl _ _) .unit => true
  | _ => false

def SeqRun {α : Type} (P : Program) (gv : Bool) (vals : (Nat → Prop) → World → α → List Value → Prop) (X : Nat → Prop) (W0 : World) (xs : List α) (v : Value) : Prop :=
  ∃ f fi cap, v = .func (.func f) fi cap ∧ Enters P f ∧ ∀ (n l : Nat) (J : List α → (Nat → Prop) → (Nat → Prop) → World → Prop) (Jx : (Nat → Prop) → World → Prop),
    (∀ pre I E W I' E' W', J pre I E W → TurnE I E W I' E' W' → J pre I' E' W') → (∀ I W I' W', Jx I W → Turned I W I' W' → Jx I' W') →
    (∀ pre x rest I E W vs, xs = pre ++ x :: rest → J pre I E W → (∀ k, E k → W0.heap.size ≤ k ∧ k < W.heap.size) → (∀ k, I k → E k) → W0.heap.size ≤ W.heap.size → vals (yVX gv X W0 I E W) W x vs →
      YieldAt Fence.wide n P l vs.toArray W fun e W' => (e = .returned (.bool true) ∧ J (pre ++ [x]) I E W' ∧ Kept X W0 E W W') ∨ (e = .returned (.bool false) ∧ Jx I W' ∧ Kept X W0 E W W')) →
    J [] (fun _ => False) (fun _ => False) W0 →
    CallsIn Fence.wide n P f (fi ++ #[.func (.yield l) #[] #[]] ++ cap) W0 fun e W' => (∃ u, e = .returned u) ∧ ∃ I E, J xs I E W' ∨ Jx I W'

structure Sem3 (α : Type) where
  cells : (Nat → Prop) → World → α → List Value → Prop
  val : (Nat → Prop) → World → α → Value → Prop
  vals : (Nat → Prop) → World → α → List Value → Prop
  ret : (Nat → Prop) → World → α → Value → Prop

def Sem3.one {α : Type} (r : (Nat → Prop) → World → α → Value → Prop) : Sem3 α :=
  ⟨fun X W x cs => ∃ v, cs = [v] ∧ v.oneCell' = true ∧ r X W x v, r, fun X W x vs => ∃ v, vs = [v] ∧ r X W x v, r⟩

def Post {α : Type} (s : Sem3 α) (X : Nat → Prop) (w : World) (Q : α → Prop) : Ending → World → Prop :=
  fun e w' => ∃ r v, e = .returned v ∧ s.ret X w' r v ∧ BelM w w' ∧ Q r

def Kd.sem (P : Program) : (K : Kd) → Sem3 K.T
  | .int k => .one fun _ _ x v => v = .int k x
  | .bool => .one fun _ _ x v => v = .bool x
  | .str => .one fun _ _ x v => v = .string x
  | .sl _ K => .one fun X W (xs : List K.T) v => ∃ A c, v = .slice A xs.length c ∧ xs.length ≤ c ∧ c ≤ maxLen ∧ (xs ≠ [] → ∃ ad, A = some ad ∧ ¬ X ad.block ∧ ad.block < W.heap.size ∧
      ∀ (j : Nat) x, xs[j]? = some x → ∃ ecs : List Value, (K.sem P).cells X W x ecs ∧ ∀ (i : Nat) u, ecs[i]? = some u → W.cell? (ad.add (j * K.n + i)) = some u)
  | .nsl _ K => .one fun X W (xo : Option (List K.T)) v => (xo = none → v = .slice none 0 0) ∧ ∀ xs, xo = some xs → ∃ A c, v = .slice A xs.length c ∧ A ≠ none ∧ xs.length ≤ c ∧ c ≤ maxLen ∧ (xs ≠ [] → ∃ ad, A = some ad ∧ ¬ X ad.block ∧ ad.block < W.heap.size ∧
      ∀ (j : Nat) x, xs[j]? = some x → ∃ ecs : List Value, (K.sem P).cells X W x ecs ∧ ∀ (i : Nat) u, ecs[i]? = some u → W.cell? (ad.add (j * K.n + i)) = some u)
  | .pair A B => ⟨fun X W x cs => ∃ c1 c2, cs = c1 ++ c2 ∧ (A.sem P).cells X W x.1 c1 ∧ (B.sem P).cells X W x.2 c2, fun _ _ _ _ => False,
      fun X W x vs => ∃ v vs', vs = v :: vs' ∧ (A.sem P).val X W x.1 v ∧ (B.sem P).vals X W x.2 vs',
      fun X W x v => ∃ v1 vs', v = .tuple (v1 :: vs').toArray ∧ (A.sem P).val X W x.1 v1 ∧ (B.sem P).vals X W x.2 vs'⟩
  | .unit => ⟨fun _ _ _ cs => cs = [], fun _ _ _ _ => False, fun _ _ _ vs => vs = [], fun _ _ _ v => v = .tuple #[]⟩
  | .agg K => ⟨(K.sem P).cells, fun X W x v => ∃ cs : List Value, v = .agg cs.toArray ∧ (K.sem P).cells X W x cs, fun X W x vs => ∃ cs : List Value, vs = [.agg cs.toArray] ∧ (K.sem P).cells X W x cs, fun X W x v => ∃ cs : List Value, v = .agg cs.toArray ∧ (K.sem P).cells X W x cs⟩
  | .fn A R => .one fun X W g v => (∃ f fi cap, v = .func f fi cap) ∧ ∀ X' W', Evo X W X' W' → ∀ x vs, (A.sem P).vals X' W' x vs → ∀ Q, g x Q → CallsV P v vs W' (Post (R.sem P) X' W' Q)
  | .seq A => .one fun X W (xs : List A.T) v => (∃ f fi cap, v = .func f fi cap) ∧ ∀ X' W', Evo X W X' W' → SeqRun P A.giv (A.sem P).vals X' W' xs v
  | .mem K => .one fun X W (xs : List K.T) v => ∃ (h : K = memoK) (m : Nat), v = .map (some m) ∧ PackAt X W m (castL h xs) ∧ GoodAt W m (castL h xs)
  | .ptr ty K => .one fun X W x v => ∃ b cs, v = .pointer (some ⟨b, 0, none⟩) ∧ ¬ X b ∧ W.heap[b]? = some (.cells cs ty (0, 0)) ∧ (K.sem P).cells X W x cs.toList

structure Stands {α : Type} (s : Sem3 α) : Prop where
  cells : ∀ {X X' W W'} {x : α} {cs}, Evo X W X' W' → s.cells X W x cs → s.cells X' W' x cs
  val : ∀ {X X' W W'} {x : α} {v}, Evo X W X' W' → s.val X W x v → s.val X' W' x v
  vals : ∀ {X X' W W'} {x : α} {vs}, Evo X W X' W' → s.vals X W x vs → s.vals X' W' x vs
  ret : ∀ {X X' W W'} {x : α} {v}, Evo X W X' W' → s.ret X W x v → s.ret X' W' x v

theorem Stands.one {α : Type} {r : (Nat → Prop) → World → α → Value → Prop} (h : ∀ {X X' W W'} {x : α} {v}, Evo X W X' W' → r X W x v → r X' W' x v) : Stands (Sem3.one r) where
  cells := fun e ⟨v, hv, h1, hr⟩ => ⟨v, hv, h1, h e hr⟩
  val := fun e hr => h e hr
  vals := fun e ⟨v, hv, hr⟩ => ⟨v, hv, h e hr⟩
  ret := fun e hr => h e hr

theorem Evo.ad {X X' : Nat → Prop} {W W' : World} (e : Evo X W X' W') {b : Nat} (hx : ¬ X b) {o : Nat} {s : Option Nat} {u : Value} (h : W.cell? ⟨b, o, s⟩ = some u) : ¬ X' b :=
  e.notIn hx (World.block_lt_of_cell? W _ h)

theorem Evo.row {X X' : Nat → Prop} {W W' : World} (e : Evo X W X' W') {ad : Addr} (hx : ¬ X ad.block) {p : Nat} {u : Value} (h : W.cell? (ad.add p) = some u) : ¬ X' ad.block ∧ W'.cell? (ad.add p) = some u :=
  ⟨by have := World.block_lt_of_cell? W _ h; rw [add_block] at this; exact e.notIn hx this, e.cell (by rw [add_block]; exact hx) h⟩

theorem Kd.cells_length (P : Program) : ∀ (K : Kd) {X W x cs}, (K.sem P).cells X W x cs → cs.length = K.n
  | .int k, _, _, _, _, ⟨_, h, _⟩ => by rw [h]; rfl
  | .bool, _, _, _, _, ⟨_, h, _⟩ => by rw [h]; rfl
  | .str, _, _, _, _, ⟨_, h, _⟩ => by rw [h]; rfl
  | .sl _ _, _, _, _, _, ⟨_, h, _⟩ => by rw [h]; rfl
  | .nsl _ _, _, _, _, _, ⟨_, h, _⟩ => by rw [h]; rfl
  | .pair A B, _, _, _, _, ⟨c1, c2, h, h1, h2⟩ => by rw [h, List.length_append, Kd.cells_length P A h1, Kd.cells_length P B h2]; rfl
  | .unit, _, _, _, _, h => by simp only [Kd.sem] at h; rw [h]; rfl
  | .agg K, _, _, _, _, h => Kd.cells_length P K h
  | .fn _ _, _, _, _, _, ⟨_, h, _⟩ => by rw [h]; rfl
  | .ptr _ _, _, _, _, _, ⟨_, h, _⟩ => by rw [h]; rfl
  | .seq _, _, _, _, _, ⟨_, h, _⟩ => by rw [h]; rfl
  | .mem _, _, _, _, _, ⟨_, h, _⟩ => by rw [h]; rfl

theorem Kd.cells_one (P : Program) : ∀ (K : Kd) {X W x cs}, (K.sem P).cells X W x cs → ∀ u ∈ cs, u.oneCell' = true
  | .int k, _, _, _, _, ⟨_, h, h1, _⟩ => by rw [h]; simpa using h1
  | .bool, _, _, _, _, ⟨_, h, h1, _⟩ => by rw [h]; simpa using h1
  | .str, _, _, _, _, ⟨_, h, h1, _⟩ => by rw [h]; simpa using h1
  | .sl _ _, _, _, _, _, ⟨_, h, h1, _⟩ => by rw [h]; simpa using h1
  | .nsl _ _, _, _, _, _, ⟨_, h, h1, _⟩ => by rw [h]; simpa using h1
  | .pair A B, _, _, _, _, ⟨c1, c2, h, h1, h2⟩ => by
      intro u hu
      rw [h, List.mem_append] at hu
      rcases hu with hu | hu
      · exact Kd.cells_one P A h1 u hu
      · exact Kd.cells_one P B h2 u hu
  | .unit, _, _, _, _, h => by simp only [Kd.sem] at h; rw [h]; simp
  | .agg K, _, _, _, _, h => Kd.cells_one P K h
  | .fn _ _, _, _, _, _, ⟨_, h, h1, _⟩ => by rw [h]; simpa using h1
  | .ptr _ _, _, _, _, _, ⟨_, h, h1, _⟩ => by rw [h]; simpa using h1
  | .seq _, _, _, _, _, ⟨_, h, h1, _⟩ => by rw [h]; simpa using h1
  | .mem _, _, _, _, _, ⟨_, h, h1, _⟩ => by rw [h]; simpa using h1

def RowAt (P : Program) (K : Kd) (X : Nat → Prop) (W : World) (A : Option Addr) (xs : List K.T) : Prop :=
  xs ≠ [] → ∃ ad, A = some ad ∧ ¬ X ad.block ∧ ad.block < W.heap.size ∧ ∀ (j : Nat) x, xs[j]? = some x → ∃ ecs : List Value, (K.sem P).cells X W x ecs ∧ ∀ (i : Nat) u, ecs[i]? = some u → W.cell? (ad.add (j * K.n + i)) = some u

theorem RowAt.stands {P : Program} {K : Kd} (ih : Stands (K.sem P)) {X X' : Nat → Prop} {W W' : World} (e : Evo X W X' W') {A : Option Addr} {xs : List K.T} (h : RowAt P K X W A xs) : RowAt P K X' W' A xs := by
  intro hne
  obtain ⟨ad, hA, hx, hl, hc⟩ := h hne
  refine ⟨ad, hA, e.notIn hx hl, Nat.lt_of_lt_of_le hl e.size, fun j x hj => ?_⟩
  obtain ⟨ecs, h1, h2⟩ := hc j x hj
  exact ⟨ecs, ih.cells e h1, fun i u hu => (e.row hx (h2 i u hu)).2⟩

theorem Kd.stands (P : Program) : ∀ (K : Kd), Stands (K.sem P)
  | .int k => .one fun _ h => h
  | .bool => .one fun _ h => h
  | .str => .one fun _ h => h
  | .sl _ K => .one fun e ⟨A, c, h1, h2, h3, h4⟩ => ⟨A, c, h1, h2, h3, RowAt.stands (Kd.stands P K) e h4⟩
  | .nsl _ K => .one fun e ⟨h0, h⟩ => ⟨h0, fun xs hx => let ⟨A, c, h1, ha, h2, h3, h4⟩ := h xs hx; ⟨A, c, h1, ha, h2, h3, RowAt.stands (Kd.stands P K) e h4⟩⟩
  | .pair A B => {
      cells := fun e ⟨c1, c2, h, h1, h2⟩ => ⟨c1, c2, h, (Kd.stands P A).cells e h1, (Kd.stands P B).cells e h2⟩
      val := fun _ h => h
      vals := fun e ⟨v, vs, h, h1, h2⟩ => ⟨v, vs, h, (Kd.stands P A).val e h1, (Kd.stands P B).vals e h2⟩
      ret := fun e ⟨v, vs, h, h1, h2⟩ => ⟨v, vs, h, (Kd.stands P A).val e h1, (Kd.stands P B).vals e h2⟩ }
  | .unit => ⟨fun _ h => h, fun _ h => h, fun _ h => h, fun _ h => h⟩
  | .agg K => {
      cells := fun e h => (Kd.stands P K).cells e h
      val := fun e ⟨cs, h, h1⟩ => ⟨cs, h, (Kd.stands P K).cells e h1⟩
      vals := fun e ⟨cs, h, h1⟩ => ⟨cs, h, (Kd.stands P K).cells e h1⟩
      ret := fun e ⟨cs, h, h1⟩ => ⟨cs, h, (Kd.stands P K).cells e h1⟩ }
  | .fn A R => .one fun e ⟨h0, h⟩ => ⟨h0, fun X2 W2 e2 => h X2 W2 (e.trans e2)⟩
  | .seq A => .one fun e ⟨h0, h⟩ => ⟨h0, fun X2 W2 e2 => h X2 W2 (e.trans e2)⟩
  | .mem K => .one fun e ⟨h, m, h1, h2, h3⟩ => ⟨h, m, h1, h2.keep e.keep (fun k hx hk => e.notIn hx (cells_lt hk)), e.memo m _ h2 h3⟩
  | .ptr ty K => .one fun {X X' W W'} x v e ⟨b, cs, h1, h2, h3, h4⟩ => by
      have hl : b < W.heap.size := (Array.getElem?_eq_some_iff.1 h3).1
      exact ⟨b, cs, h1, e.notIn h2 hl, (e.keep b ⟨_, _, _, h3⟩ h2).trans h3, (Kd.stands P K).cells e h4⟩

theorem Kd.flat_cells (P : Program) : ∀ (K : Kd), K.flat = true → ∀ {X X' W W' x cs}, (K.sem P).cells X W x cs → (K.sem P).cells X' W' x cs
  | .int _, _, _, _, _, _, _, _, h => h
  | .bool, _, _, _, _, _, _, _, h => h
  | .str, _, _, _, _, _, _, _, h => h
  | .unit, _, _, _, _, _, _, _, h => h
  | .pair A B, hf, _, _, _, _, _, _, ⟨c1, c2, h, h1, h2⟩ => by
      simp only [Kd.flat, Bool.and_eq_true] at hf
      exact ⟨c1, c2, h, Kd.flat_cells P A hf.1 h1, Kd.flat_cells P B hf.2 h2⟩
  | .agg K, hf, _, _, _, _, _, _, h => Kd.flat_cells P K hf h
  | .sl _ _, hf, _, _, _, _, _, _, _ => by simp [Kd.flat] at hf
  | .nsl _ _, hf, _, _, _, _, _, _, _ => by simp [Kd.flat] at hf
  | .fn _ _, hf, _, _, _, _, _, _, _ => by simp [Kd.flat] at hf
  | .ptr _ _, hf, _, _, _, _, _, _, _ => by simp [Kd.flat] at hf
  | .seq _, hf, _, _, _, _, _, _, _ => by simp [Kd.flat] at hf
  | .mem _, hf, _, _, _, _, _, _, _ => by simp [Kd.flat] at hf

theorem Kd.flat_val (P : Program) : ∀ (K : Kd), K.flat = true → ∀ {X X' W W' x v}, (K.sem P).val X W x v → (K.sem P).val X' W' x v
  | .int _, _, _, _, _, _, _, _, h => h
  | .bool, _, _, _, _, _, _, _, h => h
  | .str, _, _, _, _, _, _, _, h => h
  | .unit, _, _, _, _, _, _, _, h => h
  | .pair A B, hf, _, _, _, _, _, _, h => h
  | .agg K, hf, _, _, _, _, _, _, ⟨cs, h, h1⟩ => ⟨cs, h, Kd.flat_cells P K hf h1⟩
  | .sl _ _, hf, _, _, _, _, _, _, _ => by simp [Kd.flat] at hf
  | .nsl _ _, hf, _, _, _, _, _, _, _ => by simp [Kd.flat] at hf
  | .fn _ _, hf, _, _, _, _, _, _, _ => by simp [Kd.flat] at hf
  | .ptr _ _, hf, _, _, _, _, _, _, _ => by simp [Kd.flat] at hf
  | .seq _, hf, _, _, _, _, _, _, _ => by simp [Kd.flat] at hf
  | .mem _, hf, _, _, _, _, _, _, _ => by simp [Kd.flat] at hf

theorem Kd.flat_vals (P : Program) : ∀ (K : Kd), K.flat = true → ∀ {X X' W W' x vs}, (K.sem P).vals X W x vs → (K.sem P).vals X' W' x vs
  | .int _, _, _, _, _, _, _, _, h => h
  | .bool, _, _, _, _, _, _, _, h => h
  | .str, _, _, _, _, _, _, _, h => h
  | .unit, _, _, _, _, _, _, _, h => h
  | .pair A B, hf, _, _, _, _, _, _, ⟨v, vs, h, h1, h2⟩ => by
      simp only [Kd.flat, Bool.and_eq_true] at hf
      exact ⟨v, vs, h, Kd.flat_val P A hf.1 h1, Kd.flat_vals P B hf.2 h2⟩
  | .agg K, hf, _, _, _, _, _, _, ⟨cs, h, h1⟩ => ⟨cs, h, Kd.flat_cells P K hf h1⟩
  | .sl _ _, hf, _, _, _, _, _, _, _ => by simp [Kd.flat] at hf
  | .nsl _ _, hf, _, _, _, _, _, _, _ => by simp [Kd.flat] at hf
  | .fn _ _, hf, _, _, _, _, _, _, _ => by simp [Kd.flat] at hf
  | .ptr _ _, hf, _, _, _, _, _, _, _ => by simp [Kd.flat] at hf
  | .seq _, hf, _, _, _, _, _, _, _ => by simp [Kd.flat] at hf
  | .mem _, hf, _, _, _, _, _, _, _ => by simp [Kd.flat] at hf

theorem Kd.flat_ret (P : Program) : ∀ (K : Kd), K.flat = true → ∀ {X X' W W' x v}, (K.sem P).ret X W x v → (K.sem P).ret X' W' x v
  | .int _, _, _, _, _, _, _, _, h => h
  | .bool, _, _, _, _, _, _, _, h => h
  | .str, _, _, _, _, _, _, _, h => h
  | .unit, _, _, _, _, _, _, _, h => h
  | .pair A B, hf, _, _, _, _, _, _, ⟨v, vs, h, h1, h2⟩ => by
      simp only [Kd.flat, Bool.and_eq_true] at hf
      exact ⟨v, vs, h, Kd.flat_val P A hf.1 h1, Kd.flat_vals P B hf.2 h2⟩
  | .agg K, hf, _, _, _, _, _, _, ⟨cs, h, h1⟩ => ⟨cs, h, Kd.flat_cells P K hf h1⟩
  | .sl _ _, hf, _, _, _, _, _, _, _ => by simp [Kd.flat] at hf
  | .nsl _ _, hf, _, _, _, _, _, _, _ => by simp [Kd.flat] at hf
  | .fn _ _, hf, _, _, _, _, _, _, _ => by simp [Kd.flat] at hf
  | .ptr _ _, hf, _, _, _, _, _, _, _ => by simp [Kd.flat] at hf
  | .seq _, hf, _, _, _, _, _, _, _ => by simp [Kd.flat] at hf
  | .mem _, hf, _, _, _, _, _, _, _ => by simp [Kd.flat] at hf

theorem Kd.fc_cells (P : Program) : ∀ (K : Kd), K.flat = true → ∀ {X W x cs}, (K.sem P).cells X W x cs ↔ cs = K.fc x
  | .int _, _, _, _, _, _ => ⟨fun ⟨v, h, _, h1⟩ => by rw [h, h1]; rfl, fun h => ⟨_, h, rfl, rfl⟩⟩
  | .bool, _, _, _, _, _ => ⟨fun ⟨v, h, _, h1⟩ => by rw [h, h1]; rfl, fun h => ⟨_, h, rfl, rfl⟩⟩
  | .str, _, _, _, _, _ => ⟨fun ⟨v, h, _, h1⟩ => by rw [h, h1]; rfl, fun h => ⟨_, h, rfl, rfl⟩⟩
  | .unit, _, _, _, _, _ => Iff.rfl
  | .pair A B, hf, X, W, x, cs => by
      simp only [Kd.flat, Bool.and_eq_true] at hf
      constructor
      · rintro ⟨c1, c2, h, h1, h2⟩
        rw [h, (Kd.fc_cells P A hf.1).1 h1, (Kd.fc_cells P B hf.2).1 h2]; rfl
      · intro h
        exact ⟨_, _, h, (Kd.fc_cells P A hf.1).2 rfl, (Kd.fc_cells P B hf.2).2 rfl⟩
  | .agg K, hf, _, _, _, _ => Kd.fc_cells P K hf
  | .sl _ _, hf, _, _, _, _ => by simp [Kd.flat] at hf
  | .nsl _ _, hf, _, _, _, _ => by simp [Kd.flat] at hf
  | .fn _ _, hf, _, _, _, _ => by simp [Kd.flat] at hf
  | .ptr _ _, hf, _, _, _, _ => by simp [Kd.flat] at hf
  | .seq _, hf, _, _, _, _ => by simp [Kd.flat] at hf
  | .mem _, hf, _, _, _, _ => by simp [Kd.flat] at hf

end Go.GX
set_option linter.unusedVariables false
namespace Go.GX
open Go.RowKit Go.Shelf Go.Proofs

inductive Cap where
  | l (l : Nat)
  | d (ty : TypeId) (K : Kd) (x : K.T)

inductive SC where
  | v (u : Value)
  | d (K : Kd) (x : K.T)
  | fr (e : TypeId) (K : Kd) (xs : List K.T)
  | nl (e : TypeId) (K : Kd)
  | own (l : Nat)
  | ptr (l off : Nat)
  | ep (l j sz off : Nat)
  | dp (K : Kd) (x : K.T) (off : Nat)
  | inn (l vl j : Nat)
  | iep (l vl j i sz off : Nat)
  | clo (f : FuncId) (caps : List Cap)
  | sub (l lo hi sz : Nat)
  | pt (l off n : Nat) (j : Int)
  | bsl (l lo hi n : Nat)
  | om (l : Nat)

inductive SV where
  | any
  | mk (agg : Bool) (cs : List SC)
  | tup (vs : List (Bool × List SC))

inductive HE where
  | box (own : Bool) (ty : TypeId) (cs : List SC)
  | row (nn : Bool) (e : TypeId) (K : Kd) (xs : List K.T)
  | dat (nn : Bool) (e : TypeId) (K : Kd) (xs : List K.T)
  | ln (e : TypeId) (K : Kd) (xs : List K.T)
  | mat (nn : Bool) (e : TypeId) (ag : Bool) (e1 : TypeId) (K1 : Kd) (xs : List (List K1.T)) (hole : Option Nat) (vl : Nat)
  | mp (k : IntKind) (K : Kd) (es : List (Int × K.T))

structure TI where
  kd : Kd
  bytes : Nat

structure Ct where
  A : Kd
  C : Kd
  R : Kd
  wp : A.T → C.T → (R.T → Prop) → Prop
  fresh : Bool
  own : Bool := false

structure CtW where
  e : TypeId
  K : Kd
  A : Kd
  C : Kd
  R : Kd
  wp : List K.T → A.T → C.T → (R.T → List K.T → Prop) → Prop

structure CtH where
  e : TypeId
  K : Kd
  A : Kd
  C : Kd
  wp : List K.T → A.T → C.T → (List K.T → Prop) → Prop

structure ItM where
  A : Kd
  E : Kd
  pre : A.T → Prop
  xs : A.T → List E.T

structure GV where
  ty : TypeId
  K : Kd
  x : K.T

structure Stat where
  ty : TypeId → Option TI
  sl : TypeId → Option TypeId
  fld : TypeId → Nat → Option (Nat × TypeId)
  glb : Nat → Option GV
  ct : FuncId → Option Ct
  eq : TypeId → Option Nat
  mkr : FuncId → Option (TypeId × FuncId)
  lit : Nat → Bool
  inl : FuncId → Bool
  clip : FuncId → Bool
  arr : TypeId → Option (Nat × TypeId)
  io : FuncId → Option CtW
  mp : TypeId → Option (TypeId × TypeId)
  itm : FuncId → Option ItM
  hov : FuncId → Option CtH
  mpi : TypeId → Option (TypeId × TypeId) := fun _ => none

structure St where
  n : Nat
  tm : Nat → SV
  hp : Nat → Option (HE × Nat)
  cnt : Nat
  dom : List Nat

def dl (lab c : Nat) : Nat := (lab + 1) * 10000000000 + c
def vlab (lab : Nat) : Nat := dl lab 0
def ol (lab c : Nat) : Nat := dl lab (2 * c + 1)
def olv (lab c : Nat) : Nat := dl lab (2 * c + 2)

def freshL (lab : Nat) : List Nat → Bool
  | [] => true
  | l :: r => cond (Nat.beq l lab || (Nat.ble ((lab + 1) * 10000000000) l && Nat.blt l ((lab + 2) * 10000000000))) false (freshL lab r)

def updf {α : Type} (f : Nat → α) (d : Nat) (v : α) : Nat → α := fun t => cond (Nat.beq t d) v (f t)

def St.put (st : St) (dst : Option Nat) (sv : SV) : St :=
  match dst with
  | some d => { st with tm := updf st.tm d sv }
  | none => st

def St.look (st : St) (l : Nat) : Option HE := (st.hp l).map (·.1)

def St.upds : St → List (Nat × Option HE) → St
  | st, [] => st
  | st, (l, h) :: r => St.upds { st with hp := updf st.hp l (h.map fun x => (x, st.cnt + 1)), cnt := st.cnt + 1, dom := l :: st.dom } r

def Kd.isAgg : Kd → Bool
  | .agg _ => true
  | _ => false

def elK (ag : Bool) (e1 : TypeId) (K1 : Kd) : Kd :=
  match ag with
  | true => .agg (.sl e1 K1)
  | false => .sl e1 K1

def elX (ag : Bool) (e1 : TypeId) (K1 : Kd) (x : List K1.T) : (elK ag e1 K1).T :=
  match ag with
  | true => x
  | false => x

def Kd.fl : (K : Kd) → K.T → List SC
  | .pair A B, x => A.fl x.1 ++ B.fl x.2
  | .unit, _ => []
  | .agg K, x => K.fl x
  | .int k, x => [.d (.int k) x]
  | .bool, x => [.d .bool x]
  | .str, x => [.d .str x]
  | .sl e K, x => [.d (.sl e K) x]
  | .nsl e K, x => [.d (.nsl e K) x]
  | .fn A R, x => [.d (.fn A R) x]
  | .ptr t K, x => [.d (.ptr t K) x]
  | .seq A, x => [.d (.seq A) x]
  | .mem K, x => [.d (.mem K) x]

def Kd.zc : Kd → List SC
  | .pair A B => A.zc ++ B.zc
  | .unit => []
  | .agg K => K.zc
  | .int k => [.d (.int k) (0 : Int)]
  | .bool => [.d .bool false]
  | .str => [.d .str ByteArray.empty]
  | .sl e K => [.nl e K]
  | .nsl e K => [.nl e K]
  | .fn _ _ => [.v .nilFunc]
  | .ptr _ _ => [.v (.pointer none)]
  | .seq _ => [.v .nilFunc]
  | .mem _ => [.v (.map none)]

def Kd.zv : Kd → List Value
  | .pair A B => A.zv ++ B.zv
  | .unit => []
  | .agg K => K.zv
  | .int k => [.int k 0]
  | .bool => [.bool false]
  | .str => [.string ByteArray.empty]
  | .sl _ _ => [.slice none 0 0]
  | .nsl _ _ => [.slice none 0 0]
  | .fn _ _ => [.nilFunc]
  | .ptr _ _ => [.pointer none]
  | .seq _ => [.nilFunc]
  | .mem _ => [.map none]

def Kd.zok : Kd → Bool
  | .pair A B => A.zok && B.zok
  | .agg K => K.zok
  | .fn _ _ | .ptr _ _ | .seq _ | .mem _ => false
  | _ => true

def mkv (K : Kd) (x : K.T) : SV := .mk K.isAgg (K.fl x)

def Kd.ownOK : Kd → Bool
  | .pair A B => A.ownOK && B.ownOK
  | .agg K => K.ownOK
  | .sl _ (.sl _ K1) => K1.flat && Nat.ble 1 K1.n
  | .sl _ (.agg (.sl _ K1)) => K1.flat && Nat.ble 1 K1.n
  | .sl _ K => K.flat && Nat.ble 1 K.n
  | .unit => true
  | .int _ => true
  | .bool => true
  | .str => true
  | _ => false

def slO (lab : Nat) (e : TypeId) : (K : Kd) → List K.T → Nat → List SC × List (Nat × Option HE) × Nat
  | .sl e1 K1, xs, c => ([.own (ol lab c)], [(olv lab c, none), (ol lab c, some (.mat false e false e1 K1 xs none (olv lab c)))], c + 1)
  | .agg (.sl e1 K1), xs, c => ([.own (ol lab c)], [(olv lab c, none), (ol lab c, some (.mat false e true e1 K1 xs none (olv lab c)))], c + 1)
  | K, xs, c => ([.own (ol lab c)], [(ol lab c, some (.row false e K xs))], c + 1)

def Kd.flO (lab : Nat) : (K : Kd) → K.T → Nat → List SC × List (Nat × Option HE) × Nat
  | .pair A B, x, c => ((A.flO lab x.1 c).1 ++ (B.flO lab x.2 (A.flO lab x.1 c).2.2).1, (A.flO lab x.1 c).2.1 ++ (B.flO lab x.2 (A.flO lab x.1 c).2.2).2.1, (B.flO lab x.2 (A.flO lab x.1 c).2.2).2.2)
  | .agg K, x, c => K.flO lab x c
  | .sl e K, x, c => slO lab e K x c
  | K, x, c => (K.fl x, [], c)

def Kd.compsO (lab : Nat) : (K : Kd) → K.T → Nat → List (Bool × List SC) × List (Nat × Option HE)
  | .pair A B, x, c => ((A.isAgg, (A.flO lab x.1 c).1) :: (B.compsO lab x.2 (A.flO lab x.1 c).2.2).1, (A.flO lab x.1 c).2.1 ++ (B.compsO lab x.2 (A.flO lab x.1 c).2.2).2)
  | .unit, _, _ => ([], [])
  | K, x, c => ([(K.isAgg, (K.flO lab x c).1)], (K.flO lab x c).2.1)

def retO (lab : Nat) (R : Kd) (r : R.T) : SV × List (Nat × Option HE) :=
  match R, r with
  | .pair A B, r => (.tup ((Kd.pair A B).compsO lab r 0).1, ((Kd.pair A B).compsO lab r 0).2)
  | .unit, _ => (.tup [], [])
  | R, r => (.mk R.isAgg (R.flO lab r 0).1, (R.flO lab r 0).2.1)

def Kd.comps : (K : Kd) → K.T → List (Bool × List SC)
  | .pair A B, x => (A.isAgg, A.fl x.1) :: B.comps x.2
  | .unit, _ => []
  | .agg K, x => [(true, K.fl x)]
  | K, x => [(false, K.fl x)]

def retv (K : Kd) (x : K.T) : SV :=
  match K, x with
  | .pair A B, x => .tup (Kd.comps (.pair A B) x)
  | .unit, _ => .tup []
  | K, x => mkv K x

section
variable (S : Stat)

def cSV (t : TypeId) : Value → SV
  | .int k n => .mk false [.d (.int k) n]
  | .bool b => .mk false [.d .bool b]
  | .string s => .mk false [.d .str s]
  | .slice none 0 0 => match S.sl t with
    | some e => match S.ty e with
      | some i => .mk false [.nl e i.kd]
      | none => .any
    | none => .any
  | .nilFunc => .mk false [.v .nilFunc]
  | _ => .any

def ev (st : St) (t : TypeId) : Operand → SV
  | .tmp n => st.tm n
  | .const v => cSV S t v
  | .global g => match S.glb g with
    | some v => .mk false [.dp v.K v.x 0]
    | none => .any
  | .func f => .mk false [.clo f []]

def decOne {α : Type} (d : SC → Option (α × List Nat)) (cs : List SC) : Option (α × List SC × List Nat) :=
  match cs with
  | c :: r => match d c with
    | some (x, l) => some (x, r, l)
    | none => none
  | [] => none

def decs (d1 : (K : Kd) → SC → Option (K.T × List Nat)) : (K : Kd) → List SC → Option (K.T × List SC × List Nat)
  | .pair A B => fun cs => match decs d1 A cs with
    | some (x, r, l) => match decs d1 B r with
      | some (y, r', l') => some ((x, y), r', l ++ l')
      | none => none
    | none => none
  | .unit => fun cs => some ((), cs, [])
  | .agg K => decs d1 K
  | .int k => decOne (d1 (.int k))
  | .bool => decOne (d1 .bool)
  | .str => decOne (d1 .str)
  | .sl e K => decOne (d1 (.sl e K))
  | .nsl e K => decOne (d1 (.nsl e K))
  | .fn A R => decOne (d1 (.fn A R))
  | .ptr t K => decOne (d1 (.ptr t K))
  | .seq A => decOne (d1 (.seq A))
  | .mem K => decOne (d1 (.mem K))

def Cap.sc : Cap → SC
  | .l m => .ptr m 0
  | .d t K y => .d (.ptr t K) y

def capsD (d1 : (K : Kd) → SC → Option (K.T × List Nat)) : (K : Kd) → List Cap → Option (K.T × List Nat)
  | .unit, [] => some ((), [])
  | .pair (.ptr t A) B, c :: r => match d1 (.ptr t A) c.sc with
    | some (x, l) => match capsD d1 B r with
      | some (y, l') => some ((x, y), l ++ l')
      | none => none
    | none => none
  | _, _ => none

def Kd.arg : Kd → Bool
  | .pair _ _ | .unit => false
  | _ => true

def isNone (K : Kd) : Option (List K.T) := none

def asSl (K1 : Kd) : (K' : Kd) → K'.T → Option (List K1.T)
  | .nsl _ K2, x => if h : K2 = K1 then some (castL h (Option.getD x [])) else none
  | .sl _ K2, x => if h : K2 = K1 then some (castL h x) else none
  | _, _ => none

def ownDec (l : Nat) (nn : Bool) (K' : Kd) (xs : List K'.T) : (K : Kd) → Option (K.T × List Nat)
  | .sl _ K1 => if h : K' = K1 then some (castL h xs, [l]) else none
  | .nsl _ K1 => if h : K' = K1 then (if nn then some (some (castL h xs), [l]) else none) else none
  | _ => none

def allI (k : IntKind) : List SC → Option (List Int)
  | [] => some []
  | .d (.int k') x :: r => if k' = k then (allI k r).map fun xs => List.cons (α := Int) x xs else none
  | _ => none

def decList (d1 : (K : Kd) → SC → Option (K.T × List Nat)) (K : Kd) : (n : Nat) → List SC → Option (List K.T × List Nat)
  | 0, [] => some ([], [])
  | 0, _ => none
  | n + 1, cs => match decs d1 K cs with
    | some (x, r, l) => match decList d1 K n r with
      | some (xs, l') => some (x :: xs, l ++ l')
      | none => none
    | none => none

def dec1 (look : Nat → Option HE) : (n : Nat) → (K : Kd) → SC → Option (K.T × List Nat)
  | 0, _, _ => none
  | m + 1, K, c =>
    match c with
    | .d K' x => if h : K' = K then some (castT h x, []) else
      match K with
      | .sl _ K1 => (asSl K1 K' x).map fun xs => (xs, [])
      | _ => none
    | .fr _ K' xs => match K with
      | .sl _ K1 => if h : K' = K1 then some (castL h xs, []) else none
      | _ => none
    | .nl _ _ => match K with
      | .sl _ K1 => some (([] : List K1.T), [])
      | .nsl _ K1 => some (isNone K1, [])
      | _ => none
    | .own l => match look l with
      | some (.row nn _ K' xs) => ownDec l nn K' xs K
      | some (.dat nn _ K' xs) => ownDec l nn K' xs K
      | some (.ln _ K' xs) => ownDec l false K' xs K
      | some (.mat nn _ ag e1 K1 xs none _) => ownDec l nn (elK ag e1 K1) (xs.map (elX ag e1 K1)) K
      | _ => none
    | .inn l vl j => match look l with
      | some (.mat _ _ _ _ K1 xs none vl') => cond (Nat.beq vl vl') (ownDec l false K1 (xs.getD j []) K) none
      | _ => none
    | .bsl l lo hi n => match look l with
      | some (.box _ _ cs) => match K with
        | .sl _ (.int k) => cond (Nat.ble n cs.length) ((allI k (cs.take n)).map fun (xs : List Int) => ((xs.take hi).drop lo, [l])) none
        | .sl _ (.sl e2 K2) => cond (Nat.ble n cs.length && Nat.beq lo 0 && Nat.beq hi n) ((decList (dec1 look m) (.sl e2 K2) n (cs.take n)).map fun p => (p.1, l :: p.2)) none
        | _ => none
      | _ => none
    | .sub l lo hi sz => match look l with
      | some (.row _ _ K' xs) => match K with
        | .sl _ K1 => if h : K' = K1 then cond (Nat.beq sz K'.n) (some (((castL h xs).take hi).drop lo, [l])) none else none
        | _ => none
      | _ => none
    | .ptr l 0 => match look l with
      | some (.box own ty cs) => match K with
        | .ptr ty' K1 => if ty = ty' then (match decs (dec1 look m) K1 cs with
          | some (x, [], ls) => some (x, cond own (l :: ls) ls)
          | _ => none) else none
        | _ => none
      | _ => none
    | .clo f cs => match S.ct f with
      | some c => match K with
        | .fn A R => if ho : c.own = false then if h : A = c.A then if h' : c.R = R then (match capsD (dec1 look m) c.C cs with
          | some (y, ls) => some ((fun (x : A.T) (Q : R.T → Prop) => c.wp (castT h x) y (fun r => Q (castT h' r))), ls)
          | none => none) else none else none else none
        | _ => none
      | none => none
    | _ => none

def decArg (d1 : (K : Kd) → SC → Option (K.T × List Nat)) (K : Kd) (ss : List SV) : Option (K.T × List Nat) :=
  match ss with
  | [.mk a cs] => if (a == K.isAgg && K.arg) = true then (match decs d1 K cs with
    | some (x, [], l) => some (x, l)
    | _ => none) else none
  | _ => none

def decArgs (d1 : (K : Kd) → SC → Option (K.T × List Nat)) : (K : Kd) → List SV → Option (K.T × List Nat)
  | .unit => fun ss => match ss with
    | [] => some ((), [])
    | _ => none
  | .pair A B => fun ss => match ss with
    | .mk a cs :: r => if (a == A.isAgg && A.arg) = true then (match decs d1 A cs with
      | some (x, [], l) => match decArgs d1 B r with
        | some (y, l') => some ((x, y), l ++ l')
        | none => none
      | _ => none) else none
    | _ => none
  | .agg K => decArg d1 (.agg K)
  | .int k => decArg d1 (.int k)
  | .bool => decArg d1 .bool
  | .str => decArg d1 .str
  | .sl e K => decArg d1 (.sl e K)
  | .nsl e K => decArg d1 (.nsl e K)
  | .fn A R => decArg d1 (.fn A R)
  | .ptr t K => decArg d1 (.ptr t K)
  | .seq A => decArg d1 (.seq A)
  | .mem K => decArg d1 (.mem K)

def slData (look : Nat → Option HE) : SC → Option ((K : Kd) × List K.T × List Nat)
  | .d (.sl _ K) xs => some ⟨K, xs, []⟩
  | .d (.nsl _ K) xo => some ⟨K, Option.getD xo [], []⟩
  | .fr _ K xs => some ⟨K, xs, []⟩
  | .nl _ K => some ⟨K, [], []⟩
  | .own l => match look l with
    | some (.row _ _ K xs) => some ⟨K, xs, [l]⟩
    | some (.dat _ _ K xs) => some ⟨K, xs, []⟩
    | some (.ln _ K xs) => some ⟨K, xs, [l]⟩
    | some (.mat _ _ ag e1 K1 xs none _) => some ⟨elK ag e1 K1, xs.map (elX ag e1 K1), [l]⟩
    | _ => none
  | .inn l vl j => match look l with
    | some (.mat _ _ _ _ K1 xs none vl') => cond (Nat.beq vl vl') (some ⟨K1, xs.getD j [], [l]⟩) none
    | _ => none
  | .sub l lo hi sz => match look l with
    | some (.row _ _ K xs) => cond (Nat.beq sz K.n) (some ⟨K, (xs.take hi).drop lo, [l]⟩) none
    | _ => none
  | _ => none

def allB : List SC → Option (List Bool)
  | [] => some []
  | .d .bool x :: r => (allB r).map fun xs => List.cons (α := Bool) x xs
  | _ => none

def pickD (j : Int) (cs : List SC) : Option SC :=
  match cs with
  | .d (.int k) x :: _ => (allI k cs).map fun (xs : List Int) => .d (.int k) (List.getD (α := Int) xs j.toNat x)
  | .d .bool x :: _ => (allB cs).map fun (xs : List Bool) => .d .bool (List.getD (α := Bool) xs j.toNat x)
  | _ => none

def setD (j : Int) (cs : List SC) (v : List SC) : Option (List SC) :=
  match v with
  | [.d (.int k) u] => (allI k cs).map fun (xs : List Int) => (List.range xs.length).map fun i => .d (.int k) (List.getD (α := Int) (List.set (α := Int) xs j.toNat u) i u)
  | [.d .bool u] => (allB cs).map fun (xs : List Bool) => (List.range xs.length).map fun i => .d .bool (List.getD (α := Bool) (List.set (α := Bool) xs j.toNat u) i u)
  | _ => none

def cellsAt (look : Nat → Option HE) : SC → Option (List SC)
  | .ptr l off => match look l with
    | some (.box _ _ cs) => some (cs.drop off)
    | _ => none
  | .ep l j sz off => match look l with
    | some (.row _ _ K xs) => cond (Nat.beq sz K.n) (some ((K.fl (xs.getD j K.dflt)).drop off)) none
    | some (.dat _ _ K xs) => cond (Nat.beq sz K.n) (some ((K.fl (xs.getD j K.dflt)).drop off)) none
    | some (.ln _ K xs) => cond (Nat.beq sz K.n) (some ((K.fl (xs.getD j K.dflt)).drop off)) none
    | some (.mat _ _ _ _ _ _ none vl) => cond (Nat.beq sz 1 && Nat.beq off 0) (some [.inn l vl j]) none
    | _ => none
  | .iep l vl j i sz off => match look l with
    | some (.mat _ _ _ _ K1 xs none vl') => cond (Nat.beq vl vl' && Nat.beq sz K1.n) (some ((K1.fl ((xs.getD j []).getD i K1.dflt)).drop off)) none
    | _ => none
  | .dp K x off => some ((K.fl x).drop off)
  | .pt l off n j => match look l with
    | some (.box _ _ cs) => cond (Nat.ble (off + n) cs.length) ((pickD j ((cs.drop off).take n)).map fun c => [c]) none
    | _ => none
  | .d (.ptr _ K) x => some (K.fl x)
  | _ => none

def moveP (n : Nat) : SC → Option SC
  | .ptr l off => some (.ptr l (off + n))
  | .ep l j sz off => some (.ep l j sz (off + n))
  | .iep l vl j i sz off => some (.iep l vl j i sz (off + n))
  | .dp K x off => some (.dp K x (off + n))
  | .d (.ptr _ K) x => some (.dp K x n)
  | _ => none

def splice {α : Type} (cs : List α) (off : Nat) (new : List α) : List α := cs.take off ++ new ++ cs.drop (off + new.length)

def frzHE : HE → HE
  | .box _ ty cs => .box false ty cs
  | .row nn e K xs => .dat nn e K xs
  | .mat nn e ag e1 K1 xs none _ => .dat nn e (elK ag e1 K1) (xs.map (elX ag e1 K1))
  | h => h

def HE.frB : HE → Bool
  | .ln _ _ _ => false
  | .mat _ _ _ _ _ _ (some _) _ => false
  | .mp _ _ _ => false
  | _ => true

def frz (look : Nat → Option HE) : List Nat → List (Nat × Option HE)
  | [] => []
  | l :: r => match look l with
    | some h => (l, some (frzHE h)) :: frz look r
    | none => frz look r

def noLn (look : Nat → Option HE) : List Nat → Bool
  | [] => true
  | l :: r => (match look l with
    | some h => h.frB
    | none => true) && noLn look r

def chk (b : Bool) (p : Prop) : Prop :=
  match b with
  | true => p
  | false => False

def cnd (b : Bool) (p q : Prop) : Prop :=
  match b with
  | true => p
  | false => q

theorem cnd_iff {b : Bool} {p q : Prop} : cnd b p q ↔ (b = true → p) ∧ (b = false → q) := by cases b <;> simp [cnd]

def gdS (b want : Bool) (p q : Prop) : Prop :=
  match want with
  | true => cnd b p q
  | false => cnd b q p

theorem gdS_iff {b want : Bool} {p q : Prop} : gdS b want p q ↔ (b = want → p) ∧ (b ≠ want → q) := by cases b <;> cases want <;> simp [gdS, cnd]

theorem chk_iff {b : Bool} {p : Prop} : chk b p ↔ b = true ∧ p := by cases b <;> simp [chk]

def oneB (v : SV) (k : Bool → Prop) : Prop :=
  match v with
  | .mk false [.d .bool b] => k b
  | _ => False

def oneC (v : SV) (k : SC → Prop) : Prop :=
  match v with
  | .mk false [c] => k c
  | _ => False

def oneI (v : SV) (k : Int → Prop) : Prop :=
  match v with
  | .mk false [.d (.int _) x] => k x
  | _ => False

def oneIK (v : SV) (k : IntKind → Int → Prop) : Prop :=
  match v with
  | .mk false [.d (.int q) x] => k q x
  | _ => False

def cellsOf (v : SV) (k : List SC → Prop) : Prop :=
  match v with
  | .mk _ cs => k cs
  | _ => False

def memL (l : Nat) : List Nat → Bool
  | [] => false
  | m :: r => cond (Nat.beq l m) true (memL l r)

def aggC (v w : SV) (k : List SC → List SC → Prop) (p : Prop) : Prop :=
  match v, w with
  | .mk true cs, .mk true ds => k cs ds
  | _, _ => p

def optK {α : Type} (o : Option α) (k : α → Prop) : Prop :=
  match o with
  | some x => k x
  | none => False

def boolSV (b : Bool) : SV := .mk false [.d .bool b]
def intSV (k : IntKind) (n : Int) : SV := .mk false [.d (.int k) n]

def isNil (dr : Bool) (look : Nat → Option HE) : SC → (Bool → Prop) → Prop
  | .d (.sl _ K) xs, k => chk (!dr) (∀ b : Bool, (b = true → xs = ([] : List K.T)) → k b)
  | .d (.nsl _ _) xo, k => k (Option.isNone xo)
  | .nl _ _, k => k true
  | .own l, k => match look l with
    | some (.row nn _ K xs) => cond nn (k false) (chk (!dr) (∀ b : Bool, (b = true → xs = ([] : List K.T)) → k b))
    | some (.dat nn _ K xs) => cond nn (k false) (chk (!dr) (∀ b : Bool, (b = true → xs = ([] : List K.T)) → k b))
    | some (.mat nn _ _ _ _ _ _ _) => cond nn (k false) False
    | _ => False
  | _, _ => False

def cmpI (op : BinOp) (x y : Int) (k : Bool → Prop) : Prop :=
  match op with
  | .eql => k (x == y)
  | .neq => k (x != y)
  | .lss => k (decide (x < y))
  | .leq => k (decide (x ≤ y))
  | .gtr => k (decide (x > y))
  | .geq => k (decide (x ≥ y))
  | _ => False

def binI (op : BinOp) (k : IntKind) (x y : Int) (Q : SV → Prop) : Prop :=
  match op with
  | .add => Q (intSV k (k.wrap (x + y)))
  | .sub => Q (intSV k (k.wrap (x - y)))
  | .mul => Q (intSV k (k.wrap (x * y)))
  | .quo => y ≠ 0 ∧ Q (intSV k (k.wrap (Int.tdiv x y)))
  | .rem => y ≠ 0 ∧ Q (intSV k (Int.tmod x y))
  | .and => Q (intSV k (k.wrap (BitVec.toNat (BitVec.ofInt k.bits x &&& BitVec.ofInt k.bits y))))
  | .or => Q (intSV k (k.wrap (BitVec.toNat (BitVec.ofInt k.bits x ||| BitVec.ofInt k.bits y))))
  | .xor => Q (intSV k (k.wrap (BitVec.toNat (BitVec.ofInt k.bits x ^^^ BitVec.ofInt k.bits y))))
  | .andNot => Q (intSV k (k.wrap (BitVec.toNat (BitVec.ofInt k.bits x &&& ~~~ BitVec.ofInt k.bits y))))
  | op => cmpI op x y fun r => Q (boolSV r)

def binB (op : BinOp) (x y : Bool) (Q : SV → Prop) : Prop :=
  match op with
  | .eql => Q (boolSV (x == y))
  | .neq => Q (boolSV (!(x == y)))
  | _ => False

def cvtS (K : Kd) (n : Int) (Q : SV → Prop) : Prop :=
  match K with
  | .int k => Q (intSV k (k.wrap n))
  | _ => False

def unS (op : UnOp) (a : SC) (Q : SV → Prop) : Prop :=
  match op, a with
  | .not, .d .bool b => Q (boolSV (Bool.not b))
  | .neg, .d (.int k) n => Q (intSV k (k.wrap (Int.sub 0 n)))
  | _, _ => False

def isBoolT : Option TI → Bool
  | some ⟨.bool, _⟩ => true
  | _ => false

def shS (op : BinOp) (k : IntKind) (x y : Int) (Q : SV → Prop) (p : Prop) : Prop :=
  match op with
  | .shr => 0 ≤ y ∧ Q (intSV k (Int.fdiv x (2 ^ (min (Int.toNat y) k.bits))))
  | .shl => 0 ≤ y ∧ Q (intSV k (k.wrap (x * 2 ^ (min (Int.toNat y) k.bits))))
  | _ => p

def eqIs : List SC → List SC → Option Bool
  | [], [] => some true
  | .d (.int k) x :: r, .d (.int k') y :: s => cond (decide (k = k')) ((eqIs r s).map fun b => (@BEq.beq Int _ x y) && b) none
  | _, _ => none

def eqAgg (n : Option Nat) (op : BinOp) (cs ds : List SC) (Q : SV → Prop) : Prop :=
  optK n fun n => chk (Nat.beq cs.length n && Nat.beq ds.length n) <| optK (eqIs cs ds) fun b => match op with
    | .eql => Q (boolSV b)
    | .neq => Q (boolSV (!b))
    | _ => False

def binS (dr tb ts : Bool) (look : Nat → Option HE) (op : BinOp) (a b : SC) (Q : SV → Prop) : Prop :=
  match a, b with
  | .d (.int k) x, .d (.int k') y => shS op k x y Q (chk (decide (k = k')) (binI op k x y Q))
  | .d .bool x, .d .bool y => chk tb (binB op x y Q)
  | c, .nl _ _ => chk ts (match op with
      | .eql => isNil dr look c fun r => Q (boolSV r)
      | .neq => isNil dr look c fun r => Q (boolSV (!r))
      | _ => False)
  | _, _ => False

def fldCells (parts : List (Nat × List SC)) (cs : List SC) : List SC := parts.foldl (fun cs p => splice cs p.1 p.2) cs

def evAll (st : St) (ts : List TypeId) (xs : List Operand) : List SV := (xs.zipIdx).map fun p => ev S st (ts.getD p.2 0) p.1

def partsS (st : St) (t : TypeId) (n : Nat) : List (Nat × Operand) → (List (Nat × List SC) → Prop) → Prop
  | [], k => k []
  | (i, x) :: r, k => optK (S.fld t i) fun f => optK (S.ty f.2) fun ti => cellsOf (ev S st f.2 x) fun cs => chk (Nat.beq cs.length ti.kd.n && Nat.ble (f.1 + cs.length) n) (partsS st t n r fun ps => k ((f.1, cs) :: ps))

def partsA (st : St) (e : TypeId) (sz n : Nat) : List (Nat × Operand) → (List (Nat × List SC) → Prop) → Prop
  | [], k => k []
  | (i, x) :: r, k => cellsOf (ev S st e x) fun cs => chk (Nat.beq cs.length sz && Nat.ble (i * sz + cs.length) n) (partsA st e sz n r fun ps => k ((i * sz, cs) :: ps))

def idxC (j : Int) (F : Nat → Prop) : Nat → Nat → Prop
  | _, 0 => False
  | k, m + 1 => cnd (decide (j = (k : Int))) (F k) (idxC j F (k + 1) m)

def idxArr (st : St) (ix : Operand) (n : Nat) (F : Nat → Prop) : Prop :=
  match ix with
  | .const (.int _ z) => chk (decide (0 ≤ z) && decide (z < (n : Int))) (F z.toNat)
  | ix => oneI (ev S st 0 ix) fun j => 0 ≤ j ∧ j < (n : Int) ∧ idxC j F 0 n

def isTmp : Operand → Bool
  | .tmp _ => true
  | _ => false
def idxPt (st : St) (ix : Operand) (n sz : Nat) (c : SC) (k : SC → Prop) (p : Prop) : Prop :=
  match c with
  | .ptr l off => match st.look l with
    | some (.box _ _ cs) => cond (isTmp ix && Nat.beq sz 1 && Nat.ble (off + n) cs.length && (pickD 0 ((cs.drop off).take n)).isSome) (oneI (ev S st 0 ix) fun j => 0 ≤ j ∧ j < (n : Int) ∧ k (.pt l off n j)) p
    | _ => p
  | _ => p
def idxV (st : St) (ix : Operand) (n : Nat) (kd : Kd) (cs : List SC) (k : SC → Prop) (p : Prop) : Prop :=
  cond (isTmp ix && !kd.isAgg && Nat.beq kd.n 1 && Nat.ble n cs.length && (pickD 0 (cs.take n)).isSome) (oneI (ev S st 0 ix) fun j => 0 ≤ j ∧ j < (n : Int) ∧ optK (pickD j (cs.take n)) k) p

def elemsS (st : St) (e : TypeId) (n : Nat) : Nat → List (Nat × Operand) → (List SC → Prop) → Prop
  | _, [], k => k []
  | i, (j, x) :: r, k => chk (Nat.beq i j) (cellsOf (ev S st e x) fun cs => chk (Nat.beq cs.length n) (elemsS st e n (i + 1) r fun ds => k (cs ++ ds)))

def fuel : Nat := 6

def capsOf : List SV → Option (List Cap)
  | [] => some []
  | .mk false [.ptr l 0] :: r => (capsOf r).map (.l l :: ·)
  | .mk false [.d (.ptr t K) x] :: r => (capsOf r).map (.d t K x :: ·)
  | _ => none

def optI (st : St) (x : Option Operand) (dflt : Int) (k : Int → Prop) : Prop :=
  match x with
  | some a => oneI (ev S st 0 a) k
  | none => k dflt

def mxI (a b : Int) : Int := if b > a then b else a
def mnI (a b : Int) : Int := if b < a then b else a

abbrev Eff := SV → List (Nat × Option HE) → Prop

def giv {α : Type} (dr : Bool) (g : (α → Prop) → Prop) (k : α → Prop) : Prop :=
  match dr with
  | false => g k
  | true => ∃ r, g (fun r' => r' = r) ∧ k r

def idxS (look : Nat → Option HE) (n : Nat) (c : SC) (j : Int) (Q : Eff) : Prop :=
  match c with
  | .own l => match look l with
    | some (.row _ _ K xs) => chk (Nat.beq K.n n) (0 ≤ j ∧ j < (xs.length : Int) ∧ Q (.mk false [.ep l j.toNat K.n 0]) [])
    | some (.dat _ _ K xs) => chk (Nat.beq K.n n) (0 ≤ j ∧ j < (xs.length : Int) ∧ Q (.mk false [.dp K (xs.getD j.toNat K.dflt) 0]) [])
    | some (.ln _ K xs) => chk (Nat.beq K.n n) (0 ≤ j ∧ j < (xs.length : Int) ∧ Q (.mk false [.ep l j.toNat K.n 0]) [])
    | some (.mat _ _ _ _ _ xs _ _) => chk (Nat.beq 1 n) (0 ≤ j ∧ j < (xs.length : Int) ∧ Q (.mk false [.ep l j.toNat 1 0]) [])
    | _ => False
  | .inn l vl i => match look l with
    | some (.mat _ _ _ _ K1 xs none vl') => chk (Nat.beq vl vl' && Nat.beq K1.n n) (0 ≤ j ∧ j < ((xs.getD i []).length : Int) ∧ Q (.mk false [.iep l vl i j.toNat K1.n 0]) [])
    | _ => False
  | .sub _ _ _ _ => False
  | c => optK (slData look c) fun d => chk (Nat.beq d.1.n n) (0 ≤ j ∧ j < (d.2.1.length : Int) ∧ Q (.mk false [.dp d.1 (d.2.1.getD j.toNat d.1.dflt) 0]) [])

def slDataB (look : Nat → Option HE) : SC → Option ((K : Kd) × List K.T × List Nat)
  | .bsl l lo hi n => match look l with
    | some (.box _ _ (.d (.int k) x :: r)) => cond (Nat.ble n (r.length + 1)) ((allI k ((SC.d (.int k) x :: r).take n)).map fun (xs : List Int) => ⟨.int k, (xs.take hi).drop lo, [l]⟩) none
    | _ => none
  | c => slData look c

def litB : SC → Bool
  | .fr _ _ (_ :: _) => true
  | _ => false

def appM (look : Nat → Option HE) (lab : Nat) (e : TypeId) (i : TI) (a : SC) (m : Nat) (nn' : Bool) (ag : Bool) (e1 : TypeId) (K1 : Kd) (ys : List (List K1.T)) (Q : Eff) : Prop :=
  match a with
  | .nl _ _ => ys.length * i.bytes ≤ 140737488355328 ∧ ys.length ≠ 0 ∧ Q (.mk false [.own lab]) [(m, none), (vlab lab, none), (lab, some (.mat true e ag e1 K1 ys none (vlab lab)))]
  | .own l => match look l with
    | some (.mat nn e' ag' e1' K1' xs none _) => chk (Nat.beq e' e && !Nat.beq l m && (ag == ag') && Nat.beq e1 e1') (if h : K1' = K1 then (xs.length + ys.length) * i.bytes ≤ 140737488355328 ∧ ys.length ≠ 0 ∧
        Q (.mk false [.own lab]) [(l, none), (m, none), (vlab lab, none), (lab, some (.mat true e ag e1 K1 ((xs.map (castL h)) ++ ys) none (vlab lab)))] else False)
    | _ => False
  | _ => False

def appS (look : Nat → Option HE) (lab : Nat) (e : TypeId) (i : TI) (a : SC) (ys : List i.kd.T) (lit : Bool) (ls : List Nat) (Q : Eff) : Prop :=
  match a with
  | .nl _ _ => ys.length * i.bytes ≤ 140737488355328 ∧ Q (.mk false [.own lab]) [(lab, some (.row lit e i.kd ys))]
  | .own l => match look l with
    | some (.row nn e' K xs) => chk (Nat.beq e' e && !memL l ls) (if h' : K = i.kd then (xs.length + ys.length) * i.bytes ≤ 140737488355328 ∧ Q (.mk false [.own lab]) [(l, none), (lab, some (.row (nn || lit) e i.kd (castL h' xs ++ ys)))] else False)
    | _ => False
  | .fr _ K xs => if h' : K = i.kd then (xs.length + ys.length) * i.bytes ≤ 140737488355328 ∧ ys.length ≠ 0 ∧ Q (.mk false [.own lab]) [(lab, some (.row true e i.kd (castL h' xs ++ ys)))] else False
  | .inn l vl j => match look l with
    | some (.mat nn e0 ag e1 K xs none vl') => chk (Nat.beq vl vl' && Nat.beq e1 e && !memL l ls) (if h' : K = i.kd then ((xs.getD j []).length + ys.length) * i.bytes ≤ 140737488355328 ∧
        Q (.mk false [.own lab]) [(l, some (.mat nn e0 ag e1 K xs (some j) vl)), (lab, some (.row lit e i.kd (castL h' (xs.getD j []) ++ ys)))] else False)
    | _ => False
  | _ => False

def sliceS (st : St) (hi : Bool) (d : (K : Kd) × List K.T × List Nat) (l h : Int) (Q : Eff) (mx : Option Operand) : Prop :=
  match mx with
  | none => chk (noLn st.look d.2.2) (Q (.mk false [.d (.sl 0 d.1) ((d.2.1.take h.toNat).drop l.toNat)]) (frz st.look d.2.2))
  | some a => chk (hi && noLn st.look d.2.2) <| oneI (ev S st 0 a) fun m => m = h ∧ Q (.mk false [.fr 0 d.1 ((d.2.1.take h.toNat).drop l.toNat)]) (frz st.look d.2.2)

def subS (st : St) (i : TI) (c : SC) (lo hi : Option Operand) (Q : Eff) : Prop :=
  match c with
  | .own l => match st.look l with
    | some (.row _ _ K xs) => chk (Nat.beq K.n i.kd.n) (optI S st lo 0 fun a => optI S st hi (xs.length : Int) fun b => 0 ≤ a ∧ a ≤ b ∧ b ≤ (xs.length : Int) ∧ Q (.mk false [.sub l a.toNat b.toNat K.n]) [])
    | _ => False
  | _ => False

def arrSl (st : St) (p : Nat × TypeId) (x : Operand) (lo hi mx : Option Operand) (Q : Eff) : Prop :=
  chk mx.isNone (optK (S.ty p.2) fun i => chk (Nat.beq i.kd.n 1 && Nat.ble p.1 1000) (oneC (ev S st 0 x) fun c => match c with
    | .ptr l 0 => optI S st lo 0 fun a => optI S st hi (p.1 : Int) fun b => 0 ≤ a ∧ a ≤ b ∧ b ≤ (p.1 : Int) ∧ Q (.mk false [.bsl l a.toNat b.toNat p.1]) []
    | _ => False))

def copyTo (look : Nat → Option HE) (d : SC) (k : Nat → Nat → Nat → Prop) : Prop :=
  match d with
  | .own l => match look l with
    | some (.row _ _ K xs) => k l 0 xs.length
    | _ => False
  | .sub l lo hi sz => match look l with
    | some (.row _ _ K xs) => chk (Nat.beq sz K.n) (k l lo hi)
    | _ => False
  | _ => False

def copyS (look : Nat → Option HE) (i : TI) (d s : SC) (Q : Eff) : Prop :=
  copyTo look d fun l lo hi => optK (slData look s) fun ys => match look l with
    | some (.row nn e K xs) => chk (nn && K.flat && Nat.beq K.n i.kd.n && Nat.ble 1 K.n) (if h : ys.1 = K then Q (intSV .i64 (min (hi - lo) ys.2.1.length : Nat)) [(l, some (.row nn e K (xs.take lo ++ (castL h ys.2.1).take (min (hi - lo) ys.2.1.length) ++ xs.drop (lo + min (hi - lo) ys.2.1.length))))] else False)
    | _ => False

def rowsL (look : Nat → Option HE) (e1 : TypeId) (K1 : Kd) : List SC → Option (List (List K1.T) × List Nat)
  | [] => some ([], [])
  | .nl _ _ :: r => (rowsL look e1 K1 r).map fun p => ([] :: p.1, p.2)
  | .own l :: r => match look l with
    | some (.row _ e' K' xs) => cond (Nat.beq e' e1) (if h : K' = K1 then (match rowsL look e1 K1 r with
      | some p => cond (memL l p.2) none (some (castL h xs :: p.1, l :: p.2))
      | none => none) else none) none
    | _ => none
  | _ => none

def litM (look : Nat → Option HE) (lab : Nat) (e : TypeId) (ag : Bool) (e1 : TypeId) (K1 : Kd) (cs : List SC) (Q : Eff) : Prop :=
  optK (rowsL look e1 K1 cs) fun p => chk (K1.flat && Nat.ble 1 K1.n) (Q (.mk false [.own lab]) ((p.2.map fun l => (l, none)) ++ [(vlab lab, none), (lab, some (.mat true e ag e1 K1 p.1 none (vlab lab)))]))

def litR (look : Nat → Option HE) (lab : Nat) (e : TypeId) (i : TI) (cs : List SC) (n : Nat) (Q : Eff) : Prop :=
  optK (decList (dec1 S look fuel) i.kd n cs) fun r => chk r.2.isEmpty (Q (.mk false [.own lab]) [(lab, some (.row true e i.kd r.1))])

def litS (look : Nat → Option HE) (lab : Nat) (e : TypeId) (i : TI) (cs : List SC) (n : Nat) (Q : Eff) : Prop :=
  cond (S.lit (lab + 6000000)) (litR S look lab e i cs n Q) <| match i.kd with
  | .sl e1 K1 => litM look lab e false e1 K1 cs Q
  | .agg (.sl e1 K1) => litM look lab e true e1 K1 cs Q
  | _ => litR S look lab e i cs n Q

def bslS (look : Nat → Option HE) (lab : Nat) (e : TypeId) (i : TI) (cs : List SC) (Q : Eff) (n : Nat) : Prop :=
  match n with
  | 0 => cond (S.lit (lab + 5000000)) (Q (.mk false [.fr e i.kd []]) []) (Q (.mk false [.own lab]) [(lab, some (.row true e i.kd []))])
  | n + 1 => cond (S.lit (lab + 8000000) && Nat.beq i.kd.n 1 && Nat.ble (n + 1) 1000) (Q (.mk false [.bsl lab 0 (n + 1) (n + 1)]) [(lab, some (.box true e cs))]) <| optK (decList (dec1 S look fuel) i.kd (n + 1) cs) fun r => chk (noLn look r.2) (Q (.mk false [.fr e i.kd r.1]) (frz look r.2))

def callS (dr : Bool) (look : Nat → Option HE) (lab : Nat) (c : Ct) (x : c.A.T) (y : c.C.T) (ls : List Nat) (Q : Eff) : Prop :=
  match c.own with
  | true => chk (c.R.ownOK && Nat.ble c.R.n 1000) (giv dr (c.wp x y) fun r => Q (retO lab c.R r).1 (retO lab c.R r).2)
  | false => match c.fresh with
    | true => giv dr (c.wp x y) fun r => Q (retv c.R r) []
    | false => chk (c.R.flat || noLn look ls) (giv dr (c.wp x y) fun r => Q (retv c.R r) (if c.R.flat then [] else frz look ls))

def inlS (st : St) (args : List Operand) (ts : List TypeId) (Q : Eff) : Prop :=
  match args, ts with
  | [x], [t] => oneC (ev S st t x) fun c => Q (.mk true [c]) []
  | _, _ => False

def clipS (st : St) (args : List Operand) (ts : List TypeId) (Q : Eff) : Prop :=
  match args, ts with
  | [x], [t] => oneC (ev S st t x) fun c => optK (slData st.look c) fun d => chk (noLn st.look d.2.2) (Q (.mk false [.fr 0 d.1 d.2.1]) (frz st.look d.2.2))
  | _, _ => False

def mkS (st : St) (lab : Nat) (p : TypeId × FuncId) (cs : List Cap) (args : List Operand) (ts : List TypeId) (Q : Eff) : Prop :=
  match cs, args, ts with
  | [], [x], [t] => cellsOf (ev S st t x) fun ds => Q (.mk false [.clo p.2 [.l lab]]) [(lab, some (.box true p.1 ds))]
  | _, _, _ => False

def mkOr (o : Option (TypeId × FuncId)) (k : TypeId × FuncId → Prop) (p : Prop) : Prop :=
  match o with
  | some x => k x
  | none => p

def orK {α : Type} (o : Option α) (k : α → Prop) (p : Prop) : Prop :=
  match o with
  | some x => k x
  | none => p

def ioS (dr : Bool) (st : St) (c : CtW) (cs : List Cap) (args : List Operand) (ts : List TypeId) (Q : Eff) : Prop :=
  match args, ts with
  | x :: xs, t :: ts => oneC (ev S st t x) fun a => match a with
    | .own l => match st.look l with
      | some (.row nn e K ys) => chk (Nat.beq e c.e && K.flat && Nat.ble 1 K.n && c.R.flat) (if h : K = c.K then
          optK (decArgs (dec1 S st.look fuel) c.A (evAll S st ts xs)) fun p => optK (capsD (dec1 S st.look fuel) c.C cs) fun q =>
            chk (!memL l (p.2 ++ q.2)) (giv dr (fun (k : c.R.T × List c.K.T → Prop) => c.wp (castL h ys) p.1 q.1 fun r zs => k (r, zs)) fun rz => Q (retv c.R rz.1) [(l, some (.row nn e K (castL h.symm rz.2)))])
        else False)
      | _ => False
    | _ => False
  | _, _ => False

def holeS (hole : Option Nat) (j : Nat) : Prop :=
  match hole with
  | some h => h = j
  | none => True

def isMat (look : Nat → Option HE) (b : SC) (k : (m : Nat) → (nn : Bool) → (ag : Bool) → (e1 : TypeId) → (K1 : Kd) → List (List K1.T) → Prop) (p : Prop) : Prop :=
  match b with
  | .own m => match look m with
    | some (.mat nn _ ag e1 K1 ys none _) => k m nn ag e1 K1 ys
    | _ => p
  | _ => p

def lenS (dr : Bool) (n : Nat) (p : Prop) : Prop :=
  match dr with
  | true => p
  | false => n ≤ 9223372036854775807 → p

def lkE0 {α : Type} (es : List (Int × α)) (x : Int) : Option α := (es.find? fun p => p.1 == x).map (·.2)
def upE0 {α : Type} : List (Int × α) → Int → α → List (Int × α)
  | [], x, v => [(x, v)]
  | p :: r, x, v => if p.1 = x then (x, v) :: r else p :: upE0 r x v
theorem lkE_ex : ∃ f : (α : Type) → List (Int × α) → Int → Option α, ∀ α es x, f α es x = lkE0 es x := ⟨fun _ => lkE0, fun _ _ _ => rfl⟩
theorem upE_ex : ∃ f : (α : Type) → List (Int × α) → Int → α → List (Int × α), ∀ α es x v, f α es x v = upE0 es x v := ⟨fun _ => upE0, fun _ _ _ _ => rfl⟩

noncomputable def lkE {α : Type} (es : List (Int × α)) (x : Int) : Option α := Classical.choose lkE_ex α es x
noncomputable def upE {α : Type} (es : List (Int × α)) (x : Int) (v : α) : List (Int × α) := Classical.choose upE_ex α es x v
theorem lkE_eq {α : Type} (es : List (Int × α)) (x : Int) : lkE es x = lkE0 es x := Classical.choose_spec lkE_ex α es x
theorem upE_eq {α : Type} (es : List (Int × α)) (x : Int) (v : α) : upE es x v = upE0 es x v := Classical.choose_spec upE_ex α es x v

def letE {α : Type} (e : α) (Q : α → Prop) : Prop := ∀ y, y = e → Q y
def mpOf (t : TypeId) (F : TypeId × TypeId → IntKind → TI → Prop) : Prop :=
  optK (S.mpi t) fun p => optK (S.ty p.1) fun a => match a.kd with
    | .int k => optK (S.ty p.2) fun i => F p k i
    | _ => False
def isMp (look : Nat → Option HE) (v : SV) (F : (l : Nat) → (k : IntKind) → (K : Kd) → List (Int × K.T) → Prop) (p : Prop) : Prop :=
  match v with
  | .mk false [.om l] => match look l with
    | some (.mp k K es) => F l k K es
    | _ => p
  | _ => p
def lookE (st : St) (t : TypeId) (key : Operand) (ok : Bool) (q : IntKind) (K : Kd) (es : List (Int × K.T)) (Q : Eff) : Prop :=
  mpOf S t fun p k i => chk (k == q && i.kd.zok && !i.kd.isAgg && (i.kd == K)) (oneIK (ev S st p.1 key) fun k' x => chk (k' == q)
    (match ok with
    | false => letE ((lkE es x).getD K.dflt) fun y => Q (mkv K y) []
    | true => letE ((lkE es x).getD K.dflt) fun y => letE (lkE es x).isSome fun bq => Q (.tup [(K.isAgg, K.fl y), (false, [.d .bool bq])]) []))
def updE (st : St) (t : TypeId) (key v : Operand) (l : Nat) (q : IntKind) (K : Kd) (es : List (Int × K.T)) (Q : Eff) : Prop :=
  mpOf S t fun p k i => chk (k == q && i.kd == K && !K.isAgg) (oneIK (ev S st p.1 key) fun k' x => chk (k' == q) (optK (decArg (dec1 S st.look fuel) K [ev S st p.2 v]) fun r =>
    chk (noLn st.look r.2 && !memL l r.2) (letE (upE es x r.1) fun es' => Q .any ((frz st.look r.2) ++ [(l, some (.mp q K es'))]))))

def keyS (st : St) (t : TypeId) (m k : Operand) (F : List memoK.T → memoKeyK.T → Prop) : Prop :=
  oneC (ev S st t m) fun c => match c with
    | .d (.mem K) xs => if h : K = memoK then (match ev S st t k with
      | .mk true cs => optK (decs (dec1 S st.look fuel) memoKeyK cs) fun p => chk (p.2.1.isEmpty && p.2.2.isEmpty) (F (castL h xs) p.1)
      | _ => False) else False
    | _ => False

def lookS (dr : Bool) (st : St) (t : TypeId) (m k : Operand) (ok : Bool) (Q : Eff) : Prop :=
  optK (S.mp t) fun _ => chk ok (keyS S st t m k fun xs key => giv dr (fun k' => ∀ (n : Int) (has : Bool), (has = true → memoSpec xs key n) → k' (n, has)) fun r => Q (.tup [(false, [.d (.int .i64) r.1]), (false, [.d .bool r.2])]) [])

def updS (st : St) (t : TypeId) (m k v : Operand) (Q : Eff) : Prop :=
  optK (S.mp t) fun _ => keyS S st t m k fun xs key => oneIK (ev S st 0 v) fun q n => chk (decide (q = .i64)) (memoSpec xs key n ∧ Q .any [])

def itmS (st : St) (f : FuncId) (fi caps : List Operand) (Q : Eff) (p : Prop) : Prop :=
  orK (S.itm f) (fun it => match fi with
    | [x] => optK (decArg (dec1 S st.look fuel) it.A [ev S st 0 x]) fun q => chk (it.A.flat && q.2.isEmpty && caps.isEmpty) (it.pre q.1 ∧ Q (.mk false [.d (.seq it.E) (it.xs q.1)]) [])
    | _ => False) p

def strIx (st : St) (t : TypeId) (x ix : Operand) (Q : Eff) : Prop :=
  optK (S.ty t) fun i => chk (i.kd == .str) <| oneC (ev S st t x) fun c => match c with
    | .d .str s => oneI (ev S st 0 ix) fun j => 0 ≤ j ∧ j < ((show ByteArray from s).size : Int) ∧ Q (intSV .u8 (((show ByteArray from s).data.getD j.toNat 0).toNat : Int)) []
    | _ => False

def clearS (look : Nat → Option HE) (i : TI) (d : SC) (Q : Eff) : Prop :=
  match d with
  | .sub l lo hi sz => match look l with
    | some (.row nn e K xs) => chk (Nat.beq sz K.n && Nat.beq K.n 1 && K.flat && K.zok && decide (K = i.kd)) (Q .any [(l, some (.row nn e K (xs.take lo ++ List.replicate (hi - lo) K.dflt ++ xs.drop hi)))])
    | _ => False
  | _ => False

def hovS (dr : Bool) (st : St) (lab : Nat) (c : CtH) (cs : List Cap) (args : List Operand) (ts : List TypeId) (Q : Eff) : Prop :=
  match args, ts with
  | x :: xs, t :: ts => oneC (ev S st t x) fun a => match a with
    | .own l => match st.look l with
      | some (.row nn e K ys) => chk (Nat.beq e c.e && K.flat && Nat.ble 1 K.n) (if h : K = c.K then
          optK (decArgs (dec1 S st.look fuel) c.A (evAll S st ts xs)) fun p => optK (capsD (dec1 S st.look fuel) c.C cs) fun q =>
            chk (!memL l (p.2 ++ q.2)) (giv dr (c.wp (castL h ys) p.1 q.1) fun zs => Q (.mk false [.own lab]) [(l, none), (lab, some (.row false e K (castL h.symm zs)))])
        else False)
      | _ => False
    | .nl _ _ => chk (c.K.flat && Nat.ble 1 c.K.n) (optK (decArgs (dec1 S st.look fuel) c.A (evAll S st ts xs)) fun p => optK (capsD (dec1 S st.look fuel) c.C cs) fun q =>
            giv dr (c.wp [] p.1 q.1) fun zs => Q (.mk false [.own lab]) [(lab, some (.row false c.e c.K zs))])
    | _ => False
  | _, _ => False

def sem (dr : Bool) (st : St) (lab : Nat) (o : Oper) (Q : Eff) : Prop :=
  match o.op with
  | .move x => Q (ev S st o.type x) []
  | .assign x => Q (ev S st o.type x) []
  | .pick c a b => oneB (ev S st 0 c) fun t => cnd t (Q (ev S st o.type a) []) (Q (ev S st o.type b) [])
  | .alloc e => optK (S.ty e) fun i => Q (.mk false [.ptr lab 0]) [(lab, some (.box true e i.kd.zc))]
  | .box e x => optK (S.ty e) fun i => cellsOf (ev S st e x) fun cs => chk (Nat.beq cs.length i.kd.n) (Q (.mk false [.ptr lab 0]) [(lab, some (.box true e cs))])
  | .build t ps => optK (S.ty t) fun i => mkOr (S.arr t) (fun p => optK (S.ty p.2) fun q => partsA S st p.2 q.kd.n i.kd.n ps.toList fun ps => chk i.kd.isAgg (Q (.mk true (fldCells ps i.kd.zc)) [])) <| partsS S st t i.kd.n ps.toList fun ps => chk (i.kd.isAgg && (S.fld t 0).isSome) (Q (.mk true (fldCells ps i.kd.zc)) [])
  | .buildSlice t n ps => optK (S.sl t) fun e => optK (S.ty e) fun i => chk (Nat.ble (n * i.kd.n) 16777216 && Nat.beq ps.toList.length n && Nat.ble 1 i.kd.n) (elemsS S st e i.kd.n 0 ps.toList fun cs => cond (S.lit lab) (litS S st.look lab e i cs n Q) (bslS S st.look lab e i cs Q n))
  | .load t a => optK (S.ty t) fun i => oneC (ev S st t a) fun c => optK (cellsAt st.look c) fun cs => chk (Nat.ble i.kd.n cs.length) (Q (.mk i.kd.isAgg (cs.take i.kd.n)) [])
  | .store t a x => optK (S.ty t) fun i => oneC (ev S st t a) fun c => cellsOf (ev S st t x) fun cs => chk (Nat.beq cs.length i.kd.n)
      (match c with
      | .ptr l off => match st.look l with
        | some (.box true ty ds) => chk (Nat.ble (off + cs.length) ds.length) (Q .any [(l, some (.box true ty (splice ds off cs)))])
        | _ => False
      | .ep l j sz off => match st.look l with
        | some (.row nn e K xs) => chk (Nat.ble (off + cs.length) K.n && Nat.beq sz K.n) (match decs (dec1 S st.look fuel) K (splice (K.fl (xs.getD j K.dflt)) off cs) with
          | some (x, [], ls) => chk ls.isEmpty (Q .any [(l, some (.row nn e K (xs.set j x)))])
          | _ => False)
        | some (.mat nn e ag e1 K1 xs hole _) => chk (Nat.beq sz 1 && Nat.beq off 0 && Nat.beq cs.length 1) (optK (rowsL st.look e1 K1 cs) fun p => chk (!memL l p.2) (holeS hole j ∧
            Q .any ((p.2.map fun m => (m, none)) ++ [(vlab lab, none), (l, some (.mat nn e ag e1 K1 (xs.set j (p.1.getD 0 [])) none (vlab lab)))])))
        | _ => False
      | .iep l vl j i sz off => match st.look l with
        | some (.mat nn e ag e1 K1 xs none vl') => chk (Nat.beq vl vl' && Nat.ble (off + cs.length) K1.n && Nat.beq sz K1.n) (match decs (dec1 S st.look fuel) K1 (splice (K1.fl ((xs.getD j []).getD i K1.dflt)) off cs) with
          | some (x, [], ls) => chk ls.isEmpty (Q .any [(l, some (.mat nn e ag e1 K1 (xs.set j ((xs.getD j []).set i x)) none vl))])
          | _ => False)
        | _ => False
      | .pt l off n j => match st.look l with
        | some (.box true ty ds) => chk (Nat.ble (off + n) ds.length) (optK (setD j ((ds.drop off).take n) cs) fun ds' => Q .any [(l, some (.box true ty (ds.take off ++ (ds' ++ ds.drop (off + n)))))])
        | _ => False
      | _ => False)
  | .nilCheck x => oneC (ev S st o.type x) fun c => match c with
      | .ptr l off => Q (.mk false [.ptr l off]) []
      | .ep l j sz off => Q (.mk false [.ep l j sz off]) []
      | .iep l vl j i sz off => Q (.mk false [.iep l vl j i sz off]) []
      | .dp K x off => Q (.mk false [.dp K x off]) []
      | .d (.ptr t K) x => Q (.mk false [.d (.ptr t K) x]) []
      | _ => False
  | .binOp op t x y t' => aggC (ev S st t x) (ev S st t' y) (fun cs ds => eqAgg (S.eq t) op cs ds fun r => Q r []) <| oneC (ev S st t x) fun a => oneC (ev S st t' y) fun b => binS dr (isBoolT (S.ty t)) (S.sl t).isSome st.look op a b fun r => Q r []
  | .convert t0 t x => optK (S.ty t0) fun _ => optK (S.ty t) fun i => oneI (ev S st t0 x) fun n => cvtS i.kd n fun r => Q r []
  | .unOp op _ x => oneC (ev S st o.type x) fun a => unS op a fun r => Q r []
  | .lookup t x ix ok => isMp st.look (ev S st t x) (fun l q K es => lookE S st t ix ok q K es Q) (lookS S dr st t x ix ok Q)
  | .mapUpdate t m k v => isMp st.look (ev S st t m) (fun l q K es => updE S st t k v l q K es Q) (updS S st t m k v Q)
  | .makeMap t none => mpOf S t fun _ k i => Q (.mk false [.om lab]) [(lab, some (.mp k i.kd []))]
  | .makeFunc (.func f) fi caps => itmS S st f fi.toList caps.toList Q <| chk (Nat.beq fi.toList.length 0) (optK (capsOf (caps.toList.map (ev S st 0))) fun cs => Q (.mk false [.clo f cs]) [])
  | .makeSlice t l c => optK (S.sl t) fun e => optK (S.ty e) fun i => chk (i.kd.zok && Nat.ble 1 i.bytes && Nat.ble 1 i.kd.n) (oneI (ev S st o.type l) fun n => oneI (ev S st o.type c) fun m => m = n ∧ 0 ≤ n ∧ n * (i.bytes : Int) ≤ 140737488355328 ∧
      Q (.mk false [.own lab]) [(lab, some (.row true e i.kd (List.replicate n.toNat i.kd.dflt)))])
  | .slice t x lo hi mx => mkOr (S.arr t) (fun p => arrSl S st p x lo hi mx Q) <| optK (S.sl t) fun e => optK (S.ty e) fun i => oneC (ev S st t x) fun c => cond (S.lit lab && mx.isNone) (subS S st i c lo hi Q) <| optK (slData st.look c) fun d => chk (Nat.beq d.1.n i.kd.n) <|
      optI S st lo 0 fun l => optI S st hi (d.2.1.length : Int) fun h =>
      0 ≤ l ∧ l ≤ h ∧ h ≤ (d.2.1.length : Int) ∧
      sliceS S st hi.isSome d l h Q mx
  | .fieldAddr t x f => optK (S.fld t f) fun p => optK (S.ty p.2) fun i => chk (Nat.ble 1 i.kd.n) (oneC (ev S st t x) fun c => optK (moveP p.1 c) fun c' => Q (.mk false [c']) [])
  | .field t x f => optK (S.fld t f) fun p => optK (S.ty p.2) fun i => match ev S st t x with
      | .mk true cs => chk (Nat.ble (p.1 + i.kd.n) cs.length) (Q (.mk i.kd.isAgg ((cs.drop p.1).take i.kd.n)) [])
      | _ => False
  | .indexAddr t x ix => mkOr (S.arr t) (fun p => optK (S.ty p.2) fun i => chk (Nat.ble 1 i.kd.n) (oneC (ev S st t x) fun c => idxPt S st ix p.1 i.kd.n c (fun c' => Q (.mk false [c']) []) <| idxArr S st ix p.1 fun k => optK (moveP (k * i.kd.n) c) fun c' => Q (.mk false [c']) [])) <| optK (S.sl t) fun e => optK (S.ty e) fun i => oneC (ev S st t x) fun c => oneI (ev S st 0 ix) fun j => idxS st.look i.kd.n c j Q
  | .index t x ix => orK (S.arr t) (fun p => optK (S.ty p.2) fun i => (match ev S st t x with
      | .mk true cs => idxV S st ix p.1 i.kd cs (fun c => Q (.mk false [c]) []) <| idxArr S st ix p.1 fun k => chk (Nat.ble (k * i.kd.n + i.kd.n) cs.length) (Q (.mk i.kd.isAgg ((cs.drop (k * i.kd.n)).take i.kd.n)) [])
      | _ => False)) (strIx S st t x ix Q)
  | .extract t ix => match ev S st 0 t with
      | .tup vs => match vs[ix]? with
        | some p => Q (.mk p.1 p.2) []
        | none => False
      | _ => False
  | .call c => match c.callee with
      | .builtin .len => match c.args.toList, c.argTypes.toList with
        | [x], [t] => optK (S.sl t) fun _ => oneC (ev S st t x) fun a => optK (slData st.look a) fun d => lenS dr d.2.1.length (Q (intSV .i64 (d.2.1.length : Int)) [])
        | _, _ => False
      | .builtin .clear => match c.args.toList, c.argTypes.toList with
        | [x], [t] => optK (S.sl t) fun e => optK (S.ty e) fun i => oneC (ev S st t x) fun d => clearS st.look i d Q
        | _, _ => False
      | .builtin .max => match c.args.toList with
        | [x, y] => oneIK (ev S st o.type x) fun q a => oneI (ev S st o.type y) fun b => Q (intSV q (mxI a b)) []
        | _ => False
      | .builtin .min => match c.args.toList with
        | [x, y] => oneIK (ev S st o.type x) fun q a => oneI (ev S st o.type y) fun b => Q (intSV q (mnI a b)) []
        | _ => False
      | .builtin .copy => match c.args.toList, c.argTypes.toList with
        | [x, y], [t, t'] => optK (S.sl t) fun e => optK (S.ty e) fun i => oneC (ev S st t x) fun d => oneC (ev S st t' y) fun s => copyS st.look i d s Q
        | _, _ => False
      | .builtin .append => match c.args.toList, c.argTypes.toList with
        | [x, y], [t, t'] => chk (Nat.beq t t') (optK (S.sl t) fun e => optK (S.ty e) fun i => oneC (ev S st t x) fun a => oneC (ev S st t y) fun b => isMat st.look b (fun m nn ag e1 K1 ys => chk (Nat.ble 1 i.bytes && Nat.beq i.kd.n 1) (appM st.look lab e i a m nn ag e1 K1 ys Q)) <| optK (slDataB st.look b) fun d =>
            chk (Nat.ble 1 i.bytes && Nat.ble 1 i.kd.n) (if h : d.1 = i.kd then appS st.look lab e i a (castL h d.2.1) (litB b) d.2.2 Q else False))
        | _, _ => False
      | .value f => oneC (ev S st 0 f) fun g => match g with
        | .clo f cs => cond (S.clip f && cs.isEmpty) (clipS S st c.args.toList c.argTypes.toList Q) <| cond (S.inl f && cs.isEmpty) (inlS S st c.args.toList c.argTypes.toList Q) <| mkOr (S.mkr f) (fun p => mkS S st lab p cs c.args.toList c.argTypes.toList Q) <| orK (S.io f) (fun w => ioS S dr st w cs c.args.toList c.argTypes.toList Q) <| orK (S.hov f) (fun w => hovS S dr st lab w cs c.args.toList c.argTypes.toList Q) <| optK (S.ct f) fun ct => optK (decArgs (dec1 S st.look fuel) ct.A (evAll S st c.argTypes.toList c.args.toList)) fun p => optK (capsD (dec1 S st.look fuel) ct.C cs) fun q =>
            callS dr st.look lab ct p.1 q.1 (p.2 ++ q.2) Q
        | .d (.fn A R) g => optK (decArgs (dec1 S st.look fuel) A (evAll S st c.argTypes.toList c.args.toList)) fun p =>
            chk (R.flat || noLn st.look p.2) (giv dr ((show A.T → (R.T → Prop) → Prop from g) p.1) fun r => Q (retv R r) (if R.flat then [] else frz st.look p.2))
        | _ => False
      | _ => False
  | _ => False
end
end Go.GX
set_option linter.unusedVariables false
namespace Go.GX
open Go.RowKit Go.Shelf Go.Proofs

inductive Item where
  | t (t : Nat) (K : Kd)
  | row (t l : Nat) (nn : Bool) (e : TypeId) (K : Kd)
  | cell (l : Nat) (ty : TypeId) (K : Kd)
  | crow (l : Nat) (ty : TypeId) (m : Nat) (nn : Bool) (e : TypeId) (K K2 : Kd)
  | crow2 (l : Nat) (ty : TypeId) (m : Nat) (nn : Bool) (e : TypeId) (K K2 : Kd) (m' : Nat) (nn' : Bool) (e' : TypeId) (K' : Kd)
  | crow3 (l : Nat) (ty : TypeId) (m : Nat) (e : TypeId) (K : Kd) (m2 : Nat) (e2 : TypeId) (K2 KD : Kd) (m3 : Nat) (e3 : TypeId) (K3 : Kd)
  | lrow (l : Nat) (nn : Bool) (e : TypeId) (K : Kd)
  | lmap (l : Nat) (q : IntKind) (K : Kd)
  | drow (l : Nat) (ty : TypeId) (K2 : Kd) (m : Nat) (nn : Bool) (e : TypeId) (K : Kd)
  | mat (t l vl : Nat) (nn : Bool) (e : TypeId) (ag : Bool) (e1 : TypeId) (K1 : Kd)
  | lmat (l vl : Nat) (nn : Bool) (e : TypeId) (ag : Bool) (e1 : TypeId) (K1 : Kd)

def Item.K : Item → Kd
  | .t _ K => K
  | .row _ _ _ e K => .sl e K
  | .cell _ _ K => K
  | .crow _ _ _ _ e K K2 => .pair (.sl e K) K2
  | .crow2 _ _ _ _ e K K2 _ _ e' K' => .pair (.sl e K) (.pair K2 (.sl e' K'))
  | .crow3 _ _ _ e K _ e2 K2 KD _ e3 K3 => .pair (.sl e K) (.pair (.sl e2 K2) (.pair KD (.sl e3 K3)))
  | .lrow _ _ e K => .sl e K
  | .lmap _ q K => .sl 0 (.pair (.int q) K)
  | .drow _ _ K2 _ _ e K => .pair K2 (.sl e K)
  | .mat _ _ _ _ e _ e1 K1 => .sl e (.sl e1 K1)
  | .lmat _ _ _ e _ e1 K1 => .sl e (.sl e1 K1)

abbrev Items := List Item

def Items.G : Items → Type
  | [] => Unit
  | it :: r => it.K.T × Items.G r

def Items.Cur : Items → Type → Type
  | [], α => α
  | it :: r, α => it.K.T → Items.Cur r α

def Items.app {α : Type} : (its : Items) → its.Cur α → its.G → α
  | [], f, _ => f
  | _ :: r, f, g => Items.app r (f g.1) g.2

def Items.All : (its : Items) → (its.G → Prop) → Prop
  | [], p => p ()
  | it :: r, p => ∀ x : it.K.T, Items.All r fun g => p (x, g)

def Items.tm : (its : Items) → its.G → Nat → Option SV
  | [], _, _ => none
  | .t t K :: r, g, n => cond (Nat.beq n t) (some (mkv K g.1)) (Items.tm r g.2 n)
  | .row t l _ _ _ :: r, g, n => cond (Nat.beq n t) (some (.mk false [.own l])) (Items.tm r g.2 n)
  | .cell _ _ _ :: r, g, n => Items.tm r g.2 n
  | .crow _ _ _ _ _ _ _ :: r, g, n => Items.tm r g.2 n
  | .crow2 _ _ _ _ _ _ _ _ _ _ _ :: r, g, n => Items.tm r g.2 n
  | .crow3 _ _ _ _ _ _ _ _ _ _ _ _ :: r, g, n => Items.tm r g.2 n
  | .lrow _ _ _ _ :: r, g, n => Items.tm r g.2 n
  | .lmap _ _ _ :: r, g, n => Items.tm r g.2 n
  | .drow _ _ _ _ _ _ _ :: r, g, n => Items.tm r g.2 n
  | .mat t l _ _ _ _ _ _ :: r, g, n => cond (Nat.beq n t) (some (.mk false [.own l])) (Items.tm r g.2 n)
  | .lmat _ _ _ _ _ _ _ :: r, g, n => Items.tm r g.2 n

def Items.hp (c : Nat) (h : Nat → Option (HE × Nat)) : (its : Items) → its.G → Nat → Option (HE × Nat)
  | [], _, n => h n
  | .t _ _ :: r, g, n => Items.hp c h r g.2 n
  | .row _ l nn e K :: r, g, n => cond (Nat.beq n l) (some (.row nn e K g.1, c)) (Items.hp c h r g.2 n)
  | .cell l ty K :: r, g, n => cond (Nat.beq n l) (some (.box true ty (K.fl g.1), c)) (Items.hp c h r g.2 n)
  | .crow l ty m nn e K K2 :: r, g, n => cond (Nat.beq n l) (some (.box true ty (.own m :: K2.fl g.1.2), c)) (cond (Nat.beq n m) (some (.row nn e K g.1.1, c)) (Items.hp c h r g.2 n))
  | .crow2 l ty m nn e K K2 m' nn' e' K' :: r, g, n => cond (Nat.beq n l) (some (.box true ty (.own m :: (K2.fl g.1.2.1 ++ [.own m'])), c)) (cond (Nat.beq n m) (some (.row nn e K g.1.1, c)) (cond (Nat.beq n m') (some (.row nn' e' K' g.1.2.2, c)) (Items.hp c h r g.2 n)))
  | .drow l ty K2 m nn e K :: r, g, n => cond (Nat.beq n l) (some (.box true ty (K2.fl g.1.1 ++ [.own m]), c)) (cond (Nat.beq n m) (some (.row nn e K g.1.2, c)) (Items.hp c h r g.2 n))
  | .crow3 l ty m e K m2 e2 K2 KD m3 e3 K3 :: r, g, n => cond (Nat.beq n l) (some (.box true ty (.own m :: .own m2 :: (KD.fl g.1.2.2.1 ++ [.own m3])), c)) (cond (Nat.beq n m) (some (.row false e K g.1.1, c)) (cond (Nat.beq n m2) (some (.row false e2 K2 g.1.2.1, c)) (cond (Nat.beq n m3) (some (.row false e3 K3 g.1.2.2.2, c)) (Items.hp c h r g.2 n))))
  | .lrow l nn e K :: r, g, n => cond (Nat.beq n l) (some (.row nn e K g.1, c)) (Items.hp c h r g.2 n)
  | .lmap l q K :: r, g, n => cond (Nat.beq n l) (some (.mp q K g.1, c)) (Items.hp c h r g.2 n)
  | .mat _ l vl nn e ag e1 K1 :: r, g, n => cond (Nat.beq n l) (some (.mat nn e ag e1 K1 g.1 none vl, c)) (cond (Nat.beq n vl) none (Items.hp c h r g.2 n))
  | .lmat l vl nn e ag e1 K1 :: r, g, n => cond (Nat.beq n l) (some (.mat nn e ag e1 K1 g.1 none vl, c)) (cond (Nat.beq n vl) none (Items.hp c h r g.2 n))

def ownOf : SV → List Nat
  | .mk false [.own l] => [l]
  | _ => []

def cellOf (h : Option HE) : SV :=
  match h with
  | some (.box _ _ (c :: _)) => .mk false [c]
  | _ => .any

def cellZ (h : Option HE) : SV :=
  match h with
  | some (.box _ _ cs) => match cs.getLast? with
    | some c => .mk false [c]
    | none => .any
  | _ => .any

def cellB (h : Option HE) : SV :=
  match h with
  | some (.box _ _ (_ :: c :: _)) => .mk false [c]
  | _ => .any

def Items.gone (st : St) : Items → List Nat
  | [] => []
  | .row t _ _ _ _ :: r => ownOf (st.tm t) ++ Items.gone st r
  | .mat t _ _ _ _ _ _ _ :: r => ownOf (st.tm t) ++ Items.gone st r
  | .crow l _ _ _ _ _ _ :: r => ownOf (cellOf (st.look l)) ++ Items.gone st r
  | .crow2 l _ _ _ _ _ _ _ _ _ _ :: r => ownOf (cellOf (st.look l)) ++ ownOf (cellZ (st.look l)) ++ Items.gone st r
  | .crow3 l _ _ _ _ _ _ _ _ _ _ _ :: r => ownOf (cellOf (st.look l)) ++ ownOf (cellB (st.look l)) ++ ownOf (cellZ (st.look l)) ++ Items.gone st r
  | .drow l _ _ _ _ _ _ :: r => ownOf (cellZ (st.look l)) ++ Items.gone st r
  | _ :: r => Items.gone st r

def Items.labs : Items → List Nat
  | [] => []
  | .t _ _ :: r => Items.labs r
  | .row _ l _ _ _ :: r => l :: Items.labs r
  | .cell l _ _ :: r => l :: Items.labs r
  | .crow l _ m _ _ _ _ :: r => l :: m :: Items.labs r
  | .crow2 l _ m _ _ _ _ m' _ _ _ :: r => l :: m :: m' :: Items.labs r
  | .crow3 l _ m _ _ m2 _ _ _ m3 _ _ :: r => l :: m :: m2 :: m3 :: Items.labs r
  | .lrow l _ _ _ :: r => l :: Items.labs r
  | .lmap l _ _ :: r => l :: Items.labs r
  | .drow l _ _ m _ _ _ :: r => l :: m :: Items.labs r
  | .mat _ l vl _ _ _ _ _ :: r => l :: vl :: Items.labs r
  | .lmat l vl _ _ _ _ _ :: r => l :: vl :: Items.labs r

def nodupL : List Nat → Bool
  | [] => true
  | l :: r => !memL l r && nodupL r

def Items.ok (st : St) (wr : List Nat) : Items → Bool
  | [] => true
  | .t t _ :: r => memL t wr && Items.ok st wr r
  | .row t l _ _ _ :: r => memL t wr && !memL l st.dom && Items.ok st wr r
  | .cell l _ _ :: r => memL l st.dom && Items.ok st wr r
  | .crow l _ m _ _ _ _ :: r => memL l st.dom && !memL m st.dom && Items.ok st wr r
  | .crow2 l _ m _ _ _ _ m' _ _ _ :: r => memL l st.dom && !memL m st.dom && !memL m' st.dom && Items.ok st wr r
  | .crow3 l _ m _ _ m2 _ _ _ m3 _ _ :: r => memL l st.dom && !memL m st.dom && !memL m2 st.dom && !memL m3 st.dom && Items.ok st wr r
  | .lrow l _ _ _ :: r => memL l st.dom && Items.ok st wr r
  | .lmap l _ _ :: r => memL l st.dom && Items.ok st wr r
  | .drow l _ _ m _ _ _ :: r => memL l st.dom && !memL m st.dom && Items.ok st wr r
  | .mat t l vl _ _ _ _ _ :: r => memL t wr && !memL l st.dom && !memL vl st.dom && Items.ok st wr r
  | .lmat l vl _ _ _ _ _ :: r => memL l st.dom && !memL vl st.dom && Items.ok st wr r

def Items.base (its : Items) (st : St) : Nat → Option (HE × Nat) := fun l => cond (memL l (its.gone st)) none (st.hp l)

def Items.head (its : Items) (st : St) (wr : List Nat) (g : its.G) : St where
  n := st.n
  tm := fun n => match its.tm g n with
    | some v => v
    | none => cond (memL n wr) .any (st.tm n)
  hp := its.hp (st.cnt + 1) (its.base st) g
  cnt := st.cnt + 1
  dom := its.labs ++ st.dom

def Items.kept (its : Items) (st : St) (l : Nat) : Bool := !memL l its.labs && (its.base st l).isSome

def rowK (kept : Nat → Bool) (look : Nat → Option HE) (seen : List Nat) (v : SV) (nn : Bool) (e : TypeId) (K : Kd) (k : List K.T → List Nat → Prop) : Prop :=
  match v with
  | .mk false [.own l] => match look l with
    | some (.row nn' e' K' xs) => chk (Nat.beq e' e && (!nn || nn') && !memL l seen && !kept l) (if h : K' = K then k (castL h xs) (l :: seen) else False)
    | _ => False
  | .mk false [.nl _ _] => chk (!nn && Nat.ble 1 K.n) (k [] seen)
  | _ => False

def matK (kept : Nat → Bool) (look : Nat → Option HE) (seen : List Nat) (v : SV) (nn : Bool) (e : TypeId) (ag : Bool) (e1 : TypeId) (K1 : Kd) (k : List (List K1.T) → List Nat → Prop) : Prop :=
  match v with
  | .mk false [.own l] => match look l with
    | some (.mat nn' e' ag' e1' K1' xs none _) => chk (Nat.beq e' e && (ag == ag') && Nat.beq e1' e1 && (!nn || nn') && !memL l seen && !kept l) (if h : K1' = K1 then k (xs.map (castL h)) (l :: seen) else False)
    | _ => False
  | .mk false [.nl _ _] => chk (!nn && K1.flat && Nat.ble 1 K1.n) (k [] seen)
  | _ => False

def castM {K K' : Kd} (h : K = K') (es : List (Int × K.T)) : List (Int × K'.T) := h ▸ es

def Items.get (S : Stat) (kept : Nat → Bool) (st : St) : (its : Items) → List Nat → (its.G → Prop) → Prop
  | [], _, k => k ()
  | .t t K :: r, seen, k => match st.tm t with
    | .mk a cs => chk (a == K.isAgg && K.arg) (optK (decs (dec1 S st.look fuel) K cs) fun p => chk (p.2.1.isEmpty && p.2.2.isEmpty) (Items.get S kept st r seen fun g => k (p.1, g)))
    | _ => False
  | .row t l nn e K :: r, seen, k => rowK kept st.look seen (st.tm t) nn e K fun xs seen => Items.get S kept st r seen fun g => k (xs, g)
  | .cell l ty K :: r, seen, k => match st.look l with
    | some (.box true ty' cs) => chk (Nat.beq ty' ty) (optK (decs (dec1 S st.look fuel) K cs) fun p => chk (p.2.1.isEmpty && p.2.2.isEmpty) (Items.get S kept st r seen fun g => k (p.1, g)))
    | _ => False
  | .crow l ty m nn e K K2 :: r, seen, k => match st.look l with
    | some (.box true ty' (c :: ds)) => chk (Nat.beq ty' ty) (rowK kept st.look seen (.mk false [c]) nn e K fun xs seen => optK (decs (dec1 S st.look fuel) K2 ds) fun p => chk (p.2.1.isEmpty && p.2.2.isEmpty) (Items.get S kept st r seen fun g => k ((xs, p.1), g)))
    | _ => False
  | .crow2 l ty m nn e K K2 m' nn' e' K' :: r, seen, k => match st.look l with
    | some (.box true ty' (c :: ds)) => chk (Nat.beq ty' ty) (rowK kept st.look seen (.mk false [c]) nn e K fun xs seen => optK (decs (dec1 S st.look fuel) K2 ds) fun p => match p.2.1 with
        | [d] => chk p.2.2.isEmpty (rowK kept st.look seen (.mk false [d]) nn' e' K' fun zs seen => Items.get S kept st r seen fun g => k ((xs, p.1, zs), g))
        | _ => False)
    | _ => False
  | .drow l ty K2 m nn e K :: r, seen, k => match st.look l with
    | some (.box true ty' ds) => chk (Nat.beq ty' ty) (optK (decs (dec1 S st.look fuel) K2 ds) fun p => match p.2.1 with
        | [d] => chk p.2.2.isEmpty (rowK kept st.look seen (.mk false [d]) nn e K fun zs seen => Items.get S kept st r seen fun g => k ((p.1, zs), g))
        | _ => False)
    | _ => False
  | .crow3 l ty m e K m2 e2 K2 KD m3 e3 K3 :: r, seen, k => match st.look l with
    | some (.box true ty' (c1 :: c2 :: ds)) => chk (Nat.beq ty' ty) (rowK kept st.look seen (.mk false [c1]) false e K fun xs seen => rowK kept st.look seen (.mk false [c2]) false e2 K2 fun ys seen => optK (decs (dec1 S st.look fuel) KD ds) fun p => match p.2.1 with
        | [d] => chk p.2.2.isEmpty (rowK kept st.look seen (.mk false [d]) false e3 K3 fun zs seen => Items.get S kept st r seen fun g => k ((xs, ys, p.1, zs), g))
        | _ => False)
    | _ => False
  | .lrow l nn e K :: r, seen, k => rowK kept st.look seen (.mk false [.own l]) nn e K fun xs seen => Items.get S kept st r seen fun g => k (xs, g)
  | .lmap l q K :: r, seen, k => match st.look l with
    | some (.mp q' K' es) => chk (q' == q) (if h : K' = K then Items.get S kept st r seen fun g => k (castM h es, g) else False)
    | _ => False
  | .mat t _ _ nn e ag e1 K1 :: r, seen, k => matK kept st.look seen (st.tm t) nn e ag e1 K1 fun xs seen => Items.get S kept st r seen fun g => k (xs, g)
  | .lmat l _ nn e ag e1 K1 :: r, seen, k => matK kept st.look seen (.mk false [.own l]) nn e ag e1 K1 fun xs seen => Items.get S kept st r seen fun g => k (xs, g)

def sameStamp (a b : Option (HE × Nat)) : Bool :=
  match a, b with
  | some (_, m), some (_, n) => Nat.beq m n
  | _, none => true
  | none, some _ => false

def keptOK (labs : List Nat) (st0 st' : St) : List Nat → Bool
  | [] => true
  | l :: r => (memL l labs || sameStamp (st'.hp l) (st0.hp l)) && keptOK labs st0 st' r

def frzIt (sv : SV) : Kd → List Nat
  | .ptr _ _ => match sv with
    | .mk false [.ptr l 0] => [l]
    | _ => []
  | _ => []
def Items.frzL (st : St) : Items → List Nat
  | [] => []
  | .t t K :: r => frzIt (st.tm t) K ++ Items.frzL st r
  | _ :: r => Items.frzL st r
def Items.pre (its : Items) (st : St) : St := st.upds (frz st.look (its.frzL st))

def codeWrites : Code → List Nat
  | .region _ ops _ => ops.toList.filterMap (·.dst)
  | .seq a b => codeWrites a ++ codeWrites b
  | .cond _ a b => codeWrites a ++ codeWrites b
  | .block _ c => codeWrites c
  | .loop c => codeWrites c
  | .rangeFunc _ ps a b => ps.toList ++ codeWrites a ++ codeWrites b
  | .scope c => codeWrites c
  | _ => []

inductive Xt where
  | norm
  | exit (id : Nat)
  | ret

section
variable (S : Stat)

def yieldS (st : St) (ops : List Oper) (j : Nat) (k : Nat → Bool → Prop) : Prop :=
  match ops[j]? with
  | some o => match o.dst with
    | some d => chk (Nat.blt d st.n) (oneB (st.tm d) (k d))
    | none => False
  | none => False

def undS (st : St) (ops : List Oper) (j : Nat) : Option Nat :=
  match ops[j]? with
  | some o => match o.dst with
    | some d => match st.tm d with
      | .tup [] => cond (Nat.blt d st.n) (some d) none
      | _ => none
    | none => none
  | none => none

def dstOK (n : Nat) : Option Nat → Bool
  | some d => Nat.blt d n
  | none => true

def vcOps (all : List Oper) (lab : Nat) : List Oper → Nat → St → (St → Prop) → Prop
  | [], _, st, K => K st
  | o :: rest, i, st, K =>
    chk (freshL (lab + i) st.dom && dstOK st.n o.dst)
    (match o.guard with
    | none => sem S false st (lab + i) o fun sv u => vcOps all lab rest (i + 1) ((st.upds u).put o.dst sv) K
    | some (j, want) => match undS st all j with
      | some _ => vcOps all lab rest (i + 1) (st.put o.dst (.tup [])) K
      | none => yieldS st all j fun d b =>
        gdS b want (sem S false (st.put (some d) (boolSV want)) (lab + i) o fun sv u => vcOps all lab rest (i + 1) (((st.put (some d) (boolSV want)).upds u).put o.dst sv) K)
          (vcOps all lab rest (i + 1) ((st.put (some d) (boolSV (!want))).put o.dst (.tup [])) K))

def opTmps (o : Oper) : List Nat := o.op.operands.toList.filterMap fun
  | .tmp t => some t
  | _ => none

def Cap.labs : Cap → List Nat
  | .l m => [m]
  | .d _ _ _ => []
def SC.labs : SC → List Nat
  | .own l => [l]
  | .ptr l _ => [l]
  | .ep l _ _ _ => [l]
  | .inn l _ _ => [l]
  | .iep l _ _ _ _ _ => [l]
  | .clo _ caps => caps.flatMap Cap.labs
  | .sub l _ _ _ => [l]
  | .pt l _ _ _ => [l]
  | .bsl l _ _ _ => [l]
  | .om l => [l]
  | _ => []
def SV.labs : SV → List Nat
  | .any => []
  | .mk _ cs => cs.flatMap SC.labs
  | .tup l => l.flatMap fun q => q.2.flatMap SC.labs

def reachL (look : Nat → Option HE) : Nat → List Nat → List Nat
  | 0, ls => ls
  | n + 1, ls => ls ++ reachL look n (ls.flatMap fun l => match look l with
    | some (.box _ _ cs) => cs.flatMap SC.labs
    | _ => [])

def St.mask (st : St) (rd mem dom : List Nat) : St :=
  ⟨st.n, fun t => cond (memL t rd) (st.tm t) .any, fun l => cond (memL l mem) ((st.look l).map fun h => (h, 0)) none, 0, dom⟩

structure Rec where
  anc : Nat
  rd : List Nat
  wr : Option Nat
  mem : List Nat
  tch : List Nat

def apartL : List Nat → List Nat → Bool
  | [], _ => true
  | l :: r, k => !memL l k && apartL r k

def apartO (d : Option Nat) (rd : List Nat) : Bool :=
  match d with
  | some t => !memL t rd
  | none => true

def Rec.apart (lab i j : Nat) (x y : Rec) : Bool :=
  apartO x.wr (y.wr.toList ++ y.rd) && apartO y.wr x.rd && apartL x.tch (y.tch ++ y.mem) && apartL y.tch x.mem && freshL (lab + i) y.tch && freshL (lab + j) x.tch

def Rec.apartAll (lab j : Nat) (y : Rec) : Nat → List Rec → Bool
  | _, [] => true
  | i, x :: r => (Nat.testBit y.anc i || x.apart lab i j y) && Rec.apartAll lab j y (i + 1) r

def ancGo (rs : List Rec) : List Edge → Nat → Nat
  | [], m => m
  | e :: r, m => ancGo rs r (cond (Region.binds .any e) (m ||| (2 ^ e.on) ||| (match rs[e.on]? with
    | some x => x.anc
    | none => 0)) m)

def ancOf (rs : List Rec) (o : Oper) : Nat := ancGo rs o.after.toList 0

def edgesOK (i : Nat) (o : Oper) : Bool := o.after.toList.all fun e => !Region.binds .any e || Nat.blt e.on i

def noLnU : List (Nat × Option HE) → Bool
  | [] => true
  | (_, h) :: r => (match h with
    | some (.ln _ _ _) => false
    | _ => true) && noLnU r

def memOf (st : St) (o : Oper) : List Nat :=
  match o.op with
  | .move _ => []
  | .assign _ => []
  | .fieldAddr _ _ _ => []
  | .nilCheck _ => []
  | .load _ _ => (opTmps o).flatMap fun t => (st.tm t).labs
  | _ => reachL st.look 3 ((opTmps o).flatMap fun t => (st.tm t).labs)

def anyRun0 (lab : Nat) (o : Oper) (i : Nat) (rs : List Rec) (st : St) (k : Rec → St → Prop) : Prop :=
  sem S true (st.mask (opTmps o) (memOf st o) []) (lab + i) o fun sv u =>
    chk (noLnU u && Rec.apartAll lab i ⟨ancOf rs o, opTmps o, o.dst, memOf st o, u.map (·.1)⟩ 0 rs) (k ⟨ancOf rs o, opTmps o, o.dst, memOf st o, u.map (·.1)⟩ ((st.upds u).put o.dst sv))

def anyRun (lab : Nat) (o : Oper) (i : Nat) (rs : List Rec) (st : St) (d : Nat) (k : Rec → St → Prop) : Prop :=
  sem S true (st.mask (opTmps o) (memOf st o) []) (lab + i) o fun sv u =>
    chk (noLnU u && Rec.apartAll lab i ⟨ancOf rs o, d :: opTmps o, o.dst, memOf st o, u.map (·.1)⟩ 0 rs) (k ⟨ancOf rs o, d :: opTmps o, o.dst, memOf st o, u.map (·.1)⟩ ((st.upds u).put o.dst sv))

def anySkip (lab : Nat) (o : Oper) (i : Nat) (rs : List Rec) (st : St) (d : Nat) (k : Rec → St → Prop) : Prop :=
  chk (Rec.apartAll lab i ⟨ancOf rs o, [d], o.dst, [], []⟩ 0 rs) (k ⟨ancOf rs o, [d], o.dst, [], []⟩ (st.put o.dst (.tup [])))

def vcAny (all : List Oper) (lab : Nat) : List Oper → Nat → List Rec → St → (St → Prop) → Prop
  | [], _, _, st, K => K st
  | o :: rest, i, rs, st, K =>
    chk (freshL (lab + i) st.dom && dstOK st.n o.dst && edgesOK i o)
    (match o.guard with
    | none => anyRun0 S lab o i rs st (fun x st => vcAny all lab rest (i + 1) (rs ++ [x]) st K)
    | some (j, want) => match undS st all j with
      | some d => anySkip lab o i rs st d fun x st => vcAny all lab rest (i + 1) (rs ++ [x]) st K
      | none => yieldS st all j fun d b =>
      gdS b want (anyRun S lab o i rs (st.put (some d) (boolSV want)) d fun x st => vcAny all lab rest (i + 1) (rs ++ [x]) st K)
        (anySkip lab o i rs (st.put (some d) (boolSV (!want))) d fun x st => vcAny all lab rest (i + 1) (rs ++ [x]) st K))

def vcAnyR (all : List Oper) (lab : Nat) : List Oper → Nat → List Rec → St → (List Rec → St → Prop) → Prop
  | [], _, rs, st, K => K rs st
  | o :: rest, i, rs, st, K =>
    chk (freshL (lab + i) st.dom && dstOK st.n o.dst && edgesOK i o)
    (match o.guard with
    | none => anyRun0 S lab o i rs st (fun x st => vcAnyR all lab rest (i + 1) (rs ++ [x]) st K)
    | some (j, want) => match undS st all j with
      | some d => anySkip lab o i rs st d fun x st => vcAnyR all lab rest (i + 1) (rs ++ [x]) st K
      | none => yieldS st all j fun d b =>
      gdS b want (anyRun S lab o i rs (st.put (some d) (boolSV want)) d fun x st => vcAnyR all lab rest (i + 1) (rs ++ [x]) st K)
        (anySkip lab o i rs (st.put (some d) (boolSV (!want))) d fun x st => vcAnyR all lab rest (i + 1) (rs ++ [x]) st K))

def isLook (o : Oper) : Bool :=
  match o.op with
  | .lookup _ _ _ _ => true
  | _ => false
def lookAt : List Oper → Nat → Option Nat
  | [], _ => none
  | o :: r, i => cond (isLook o) (some i) (lookAt r (i + 1))

def ancRecs : List Oper → List Rec → List Rec
  | [], rs => rs
  | o :: r, rs => ancRecs r (rs ++ [⟨ancOf rs o, [], none, [], []⟩])
def edgesAll : Nat → List Oper → Bool
  | _, [] => true
  | i, o :: r => edgesOK i o && edgesAll (i + 1) r
def hasBit (m : Nat) : Nat → List Rec → Bool
  | _, [] => true
  | i, x :: r => (Nat.ble i m || Nat.testBit x.anc m) && hasBit m (i + 1) r
def pivotB (m : Nat) (ops : List Oper) : Bool :=
  edgesAll 0 ops && (match (ancRecs ops [])[m]? with
    | some x => Nat.beq x.anc (2 ^ m - 1)
    | none => false) && hasBit m 0 (ancRecs ops [])
def vcLook (all : List Oper) (lab m : Nat) (st : St) (K : St → Prop) : Prop :=
  vcAnyR S all lab (all.take m) 0 [] st fun rs st1 => match all[m]? with
    | some o => chk (o.guard.isNone && freshL (lab + m) st1.dom && dstOK st1.n o.dst && Rec.apartAll lab m ⟨ancOf rs o, opTmps o, o.dst, memOf st1 o, []⟩ 0 rs)
        (sem S false (st1.mask (opTmps o) (memOf st1 o) []) (lab + m) o fun sv u => chk u.isEmpty (vcAny S all lab (all.drop (m + 1)) (m + 1) (rs ++ [⟨ancOf rs o, opTmps o, o.dst, memOf st1 o, []⟩]) (st1.put o.dst sv) K))
    | none => False
def runAny (all : List Oper) (lab : Nat) (st : St) (K : St → Prop) : Prop :=
  match cond memoOn (lookAt all 0) none with
  | none => vcAny S all lab all 0 [] st K
  | some m => chk (pivotB m all) (vcLook S all lab m st K)

def Item.heapB : Item → Bool
  | .t _ _ => false
  | .row _ _ _ _ _ => false
  | .mat _ _ _ _ _ _ _ _ => false
  | _ => true

def noRF : Code → Bool
  | .rangeFunc _ _ _ _ => false
  | .seq a b => noRF a && noRF b
  | .cond _ a b => noRF a && noRF b
  | .block _ c => noRF c
  | .loop c => noRF c
  | .scope c => noRF c
  | _ => true

def flatPut (st : St) : (A : Kd) → A.T → List Nat → Option St
  | .pair A B, x, p :: r => cond (A.flat && A.arg) (flatPut (st.put (some p) (mkv A x.1)) B x.2 r) none
  | .unit, _, [] => some st
  | .int k, x, [p] => some (st.put (some p) (mkv (.int k) x))
  | .bool, x, [p] => some (st.put (some p) (mkv .bool x))
  | .str, x, [p] => some (st.put (some p) (mkv .str x))
  | .agg K, x, [p] => cond K.flat (some (st.put (some p) (mkv (.agg K) x))) none
  | _, _, _ => none

def lend (st : St) (L : Nat) (e : TypeId) (K : Kd) (xs : List K.T) : St :=
  { st with hp := updf st.hp L (some (.ln e K xs, st.cnt)), dom := L :: st.dom }

def givPut (st : St) : (A : Kd) → A.T → List Nat → Option St
  | .agg K, x, [p] => some (st.put (some p) (mkv (.agg K) x))
  | .pair (.sl e K) .unit, x, [p] => some (st.put (some p) (mkv (.sl e K) x.1))
  | _, _, _ => none

def roundSt (st : St) (L : Nat) (A : Kd) (x : A.T) (ps : List Nat) : Option St :=
  match A, x, ps with
  | .sl e K, x, [p] => cond (K.flat && Nat.ble 1 K.n) (some ((lend st L e K x).put (some p) (.mk false [.own L]))) none
  | A, x, ps => match A.giv with
    | true => givPut st A x ps
    | false => flatPut st A x ps

def strike (st : St) (L : Nat) : St := { st with hp := updf st.hp L none }
def backSt (st0 : St) (L : Nat) (st : St) : St := { strike st L with tm := st0.tm }

def seqC (c : SC) (k : (A : Kd) → List A.T → Prop) : Prop :=
  match c with
  | .d (.seq A) xs => k A xs
  | _ => False

def known (st : St) (c : Operand) (b : Bool) : St :=
  match c with
  | .tmp t => { st with tm := updf st.tm t (.mk false [.d .bool b]) }
  | _ => st

def firstR : Code → Nat
  | .region id _ _ => id
  | .seq a _ => firstR a
  | _ => 0

def thruK (K : Xt → St → Prop) (k : St → Prop) (x : Xt) (st : St) : Prop :=
  match x with
  | .norm => k st
  | .exit i => K (.exit i) st
  | .ret => K .ret st

def joinS (its : Items) (st : St) (wr : List Nat) (run : (St → Prop) → Prop) (K : St → Prop) : Prop :=
  match its with
  | [] => run K
  | i :: r => chk (nodupL (Items.labs (i :: r)) && Items.ok st wr (i :: r)) <| ∃ I : Items.Cur (i :: r) Prop, (run fun st' => chk (keptOK (Items.labs (i :: r) ++ Items.gone st (i :: r)) st st' (Items.labs (i :: r) ++ st.dom)) <| Items.get S (Items.kept (i :: r) st) st' (i :: r) [] fun g => Items.app (i :: r) I g) ∧
      Items.All (i :: r) fun g => Items.app (i :: r) I g → K (Items.head (i :: r) st wr g)

def vc (an : Nat → Items) : Code → St → (Xt → St → Prop) → Prop
  | .skip, st, K => K .norm st
  | .region id ops false, st, K => joinS S (an (1000000 + id)) st (ops.toList.filterMap (·.dst)) (vcOps S ops.toList (id * 100) ops.toList 0 st) (K .norm)
  | .region id ops true, st, K => joinS S (an (1000000 + id)) st (ops.toList.filterMap (·.dst)) (runAny S ops.toList (id * 100) st) (K .norm)
  | .seq a b, st, K => vc an a st fun x st' => match x with
    | .norm => vc an b st' K
    | .exit i => K (.exit i) st'
    | .ret => K .ret st'
  | .cond c t e, st, K => match an (2000000 + firstR t) with
    | [] => oneB (ev S st 0 c) fun b => cnd b (vc an t (known st c true) K) (vc an e (known st c false) K)
    | i :: r => joinS S (i :: r) st (codeWrites t ++ codeWrites e) (fun k => oneB (ev S st 0 c) fun b => cnd b (vc an t (known st c true) (thruK K k)) (vc an e (known st c false) (thruK K k))) (K .norm)
  | .block id (.loop body), st, K =>
    chk (noLn st.look ((an id).frzL st) && nodupL (an id).labs && (an id).ok ((an id).pre st) (codeWrites body)) <| ∃ (I : (an id).Cur Prop) (μ : (an id).Cur Nat), (an id).get S ((an id).kept ((an id).pre st)) ((an id).pre st) [] (fun g => (an id).app I g) ∧
      (an id).All fun g => (an id).app I g → vc an body ((an id).head ((an id).pre st) (codeWrites body) g) fun x st' => match x with
        | .norm => chk (noLn st'.look ((an id).frzL st') && keptOK (an id).labs ((an id).head ((an id).pre st) (codeWrites body) g) ((an id).pre st') ((an id).labs ++ ((an id).pre st).dom)) <| (an id).get S ((an id).kept ((an id).pre st)) ((an id).pre st') [] fun g' => (an id).app I g' ∧ (an id).app μ g' < (an id).app μ g
        | .exit i => cond (Nat.beq i id) (K .norm st') (K (.exit i) st')
        | .ret => K .ret st'
  | .block id (.rangeFunc f ps asg body), st, K =>
    chk (nodupL (an id).labs && (an id).ok st [] && List.all (an id) Item.heapB && noRF asg && noRF body && ps.toList.all (fun p => Nat.blt p st.n) && !memL (id * 100 + 90) ((an id).labs ++ st.dom)) <|
    oneC (ev S st 0 f) fun c => seqC c fun A xs =>
      ∃ I : List A.T → (an id).Cur Prop, (an id).get S ((an id).kept st) st [] (fun g => (an id).app (I []) g) ∧
        (∀ pre x rest, xs = pre ++ x :: rest → (an id).All fun g => (an id).app (I pre) g → optK (roundSt ((an id).head st [] g) (id * 100 + 90) A x ps.toList) fun st1 =>
          vc an asg st1 fun y st2 => match y with
            | .norm => vc an body st2 fun z st3 => chk (sameStamp (st3.hp (id * 100 + 90)) (st1.hp (id * 100 + 90)) && noLn (strike st3 (id * 100 + 90)).look st3.dom) <| match z with
              | .norm => chk (keptOK (an id).labs st1 st3 ((an id).labs ++ st.dom)) ((an id).get S ((an id).kept st) (backSt st (id * 100 + 90) st3) [] fun g' => (an id).app (I (pre ++ [x])) g')
              | .exit i => cond (Nat.beq i id) (K .norm (backSt st (id * 100 + 90) st3)) (K (.exit i) (backSt st (id * 100 + 90) st3))
              | .ret => K .ret (backSt st (id * 100 + 90) st3)
            | _ => False) ∧
        (an id).All fun g => (an id).app (I xs) g → K .norm ((an id).head st [] g)
  | .block id c, st, K => vc an c st fun x st' => match x with
    | .norm => K .norm st'
    | .exit i => cond (Nat.beq i id) (K .norm st') (K (.exit i) st')
    | .ret => K .ret st'
  | .exit id, st, K => K (.exit id) st
  | .ret, st, K => K .ret st
  | _, _, _ => False

def argsSV : (K : Kd) → K.T → List SV
  | .unit, _ => []
  | .pair A B, x => mkv A x.1 :: argsSV B x.2
  | .agg K, x => [mkv (.agg K) x]
  | .int k, x => [mkv (.int k) x]
  | .bool, x => [mkv .bool x]
  | .str, x => [mkv .str x]
  | .sl e K, x => [mkv (.sl e K) x]
  | .nsl e K, x => [mkv (.nsl e K) x]
  | .fn A R, x => [mkv (.fn A R) x]
  | .ptr t K, x => [mkv (.ptr t K) x]
  | .seq A, x => [mkv (.seq A) x]
  | .mem K, x => [mkv (.mem K) x]

def tmOf : List SV → Nat → SV
  | [], _ => .any
  | v :: _, 0 => v
  | _ :: r, n + 1 => tmOf r n

def resSV (st : St) : ResultVar → SV
  | .tmp t => st.tm t
  | .cell a t => match S.ty t with
    | some i => match st.tm a with
      | .mk false [c] => match cellsAt st.look c with
        | some cs => cond (Nat.ble i.kd.n cs.length) (.mk i.kd.isAgg (cs.take i.kd.n)) .any
        | none => .any
      | _ => .any
    | none => .any

def decSlO (look : Nat → Option HE) (e : TypeId) (K : Kd) (c : SC) : Option (List K.T × List Nat) :=
  match c with
  | .nl _ _ => some ([], [])
  | .own l => match look l with
    | some (.row _ e' K' xs) => cond (Nat.beq e' e && K'.flat) (if h : K' = K then some (castL h xs, [l]) else none) none
    | some (.mat _ e' ag e1 K1 xs none _) => cond (Nat.beq e' e) (if h : elK ag e1 K1 = K then some (castL h (xs.map (elX ag e1 K1)), [l]) else none) none
    | _ => none
  | _ => none

def decsO (look : Nat → Option HE) : (K : Kd) → List SC → Option (K.T × List SC × List Nat)
  | .pair A B => fun cs => match decsO look A cs with
    | some (x, r, l) => match decsO look B r with
      | some (y, r', l') => some ((x, y), r', l ++ l')
      | none => none
    | none => none
  | .agg K => decsO look K
  | .sl e K => fun cs => match cs with
    | c :: r => (decSlO look e K c).map fun p => (p.1, r, p.2)
    | [] => none
  | .unit => fun cs => some ((), cs, [])
  | K => fun cs => match decs (dec1 S look fuel) K cs with
    | some (x, r, []) => some (x, r, [])
    | _ => none

def decArgO (look : Nat → Option HE) (K : Kd) (ss : List SV) : Option (K.T × List Nat) :=
  match ss with
  | [.mk a cs] => if (a == K.isAgg && K.arg) = true then (match decsO S look K cs with
    | some (x, [], l) => some (x, l)
    | _ => none) else none
  | _ => none

def decArgsO (look : Nat → Option HE) : (K : Kd) → List SV → Option (K.T × List Nat)
  | .unit => fun ss => match ss with
    | [] => some ((), [])
    | _ => none
  | .pair A B => fun ss => match ss with
    | .mk a cs :: r => if (a == A.isAgg && A.arg) = true then (match decsO S look A cs with
      | some (x, [], l) => match decArgsO look B r with
        | some (y, l') => some ((x, y), l ++ l')
        | none => none
      | _ => none) else none
    | _ => none
  | .agg K => decArgO S look (.agg K)
  | .int k => decArgO S look (.int k)
  | .bool => decArgO S look .bool
  | .str => decArgO S look .str
  | .sl e K => decArgO S look (.sl e K)
  | _ => fun _ => none

def decRes (st : St) (R : Kd) (rs : List SV) : Option (R.T × List Nat) := decArgs (dec1 S st.look fuel) R rs

def decFresh (st : St) (R : Kd) (rs : List SV) : Option R.T :=
  match rs with
  | [.mk false [.own l]] => match st.look l with
    | some (.row nn _ K' xs) => cond K'.flat (match R with
      | .sl _ K => if h : K' = K then some (castL h xs) else none
      | .nsl _ K => if h : K' = K then (if nn then some (some (castL h xs)) else none) else none
      | _ => none) none
    | _ => none
  | [.mk false [.nl _ _]] => match R with
    | .sl _ K => some ([] : List K.T)
    | .nsl _ K => some (isNone K)
    | _ => none
  | _ => none

def decEnd (own fresh : Bool) (st : St) (R : Kd) (rs : List SV) (Q : R.T → Prop) : Prop :=
  match own with
  | true => optK (decArgsO S st.look R rs) fun r => chk (nodupL r.2 && R.ownOK) (Q r.1)
  | false => match fresh with
  | true => optK (decFresh st R rs) fun r => Q r
  | false => optK (decRes S st R rs) fun r => Q r.1

def Kd.ar : Kd → Nat
  | .pair _ B => B.ar + 1
  | .unit => 0
  | _ => 1

def Kd.retOK : Kd → Bool
  | .pair _ .unit => false
  | _ => true

def vcFunc (own fresh : Bool) (an : Nat → Items) (fn : Func) (c : Code) (A C R : Kd) (x : A.T) (y : C.T) (Q : R.T → Prop) : Prop :=
  chk (Nat.ble (A.ar + C.ar) fn.ntmps && R.retOK) <| vc S an c { n := fn.ntmps, tm := tmOf (argsSV A x ++ argsSV C y), hp := fun _ => none, cnt := 0, dom := [] } fun e st =>
    match e with
    | .exit _ => False
    | .norm => decEnd S own fresh st R (fn.results.toList.map (resSV S st)) Q
    | .ret => decEnd S own fresh st R (fn.results.toList.map (resSV S st)) Q
end
end Go.GX

namespace Go.GX

def assoc {α : Type} : List (Nat × α) → Nat → Option α
  | [], _ => none
  | p :: r, n => cond (Nat.beq p.1 n) (some p.2) (assoc r n)
def assoc2 {α : Type} : List ((Nat × Nat) × α) → Nat → Nat → Option α
  | [], _, _ => none
  | p :: r, n, m => cond (Nat.beq p.1.1 n && Nat.beq p.1.2 m) (some p.2) (assoc2 r n m)
def Stat.of (tyT : List (Nat × TI)) (slT : List (Nat × Nat)) (flT : List ((Nat × Nat) × (Nat × Nat))) (eqT : List (Nat × Nat)) (mkT : List (Nat × (Nat × Nat))) (glT : List (Nat × GV)) (ctT : List (Nat × Ct)) (inls lits : List Nat) : Stat :=
  ⟨assoc tyT, assoc slT, fun t f => cond (Nat.blt f 1000000) (assoc2 flT t f) none, assoc glT, assoc ctT, assoc eqT, assoc mkT, fun l => memL l lits, fun f => memL f inls && Nat.blt f 1000000, fun f => memL (f + 1000000) inls, fun t => assoc2 flT t 1000000, fun _ => none, fun _ => none, fun _ => none, fun _ => none, fun _ => none⟩

def Stat.withIo (S : Stat) (ios : List (Nat × CtW)) : Stat := { S with io := assoc ios }

def Stat.withHov (S : Stat) (hos : List (Nat × CtH)) : Stat := { S with hov := assoc hos }

def Stat.withMp (S : Stat) (mps : List (Nat × (Nat × Nat))) : Stat := { S with mp := assoc mps }

def Stat.withMpi (S : Stat) (mps : List (Nat × (Nat × Nat))) : Stat := { S with mpi := assoc mps }

def Stat.withItm (S : Stat) (its : List (Nat × ItM)) : Stat := { S with itm := assoc its }
end Go.GX
namespace Go.GX
def bodyOf (f : Func) : Code := match f.body with | some c => c | none => .skip
end Go.GX
set_option linter.unusedVariables false
namespace Go.GX
variable [Inhabited BaseD]
open Go.RowKit Go.Shelf Go.Proofs

abbrev Lab := Nat → Option Value
def Lab.le (ρ ρ' : Lab) : Prop := ∀ l v, ρ l = some v → ρ' l = some v
theorem Lab.le_refl (ρ : Lab) : ρ.le ρ := fun _ _ h => h
theorem Lab.le.trans {a b c : Lab} (h : a.le b) (k : b.le c) : a.le c := fun l v hv => k l v (h l v hv)
theorem Lab.le_trans {a b c : Lab} (h : a.le b) (k : b.le c) : a.le c := fun l v hv => k l v (h l v hv)

section
variable (P : Program)

def RepCap (ρ : Lab) (X : Nat → Prop) (W : World) : Cap → Value → Prop
  | .l m, v => ρ m = some v ∧ ∃ b, v = .pointer (some ⟨b, 0, none⟩)
  | .d t K x, v => ((Kd.ptr t K).sem P).val X W x v

def RepCaps (ρ : Lab) (X : Nat → Prop) (W : World) : List Cap → List Value → Prop
  | [], vs => vs = []
  | c :: r, vs => ∃ v vs', vs = v :: vs' ∧ RepCap P ρ X W c v ∧ RepCaps ρ X W r vs'

def RepC (ρ : Lab) (X : Nat → Prop) (W : World) : SC → Value → Prop
  | .v u, w => w = u ∧ u.oneCell' = true
  | .d K x, w => (K.sem P).cells X W x [w]
  | .fr e K xs, w => (∃ A, w = .slice A xs.length xs.length) ∧ ((Kd.sl e K).sem P).cells X W xs [w]
  | .nl _ _, w => w = .slice none 0 0
  | .own l, w => ρ l = some w ∧ ∃ a n c, w = .slice a n c
  | .om l, w => ρ l = some w ∧ ∃ b, w = .map (some b)
  | .ptr l off, w => ∃ b, ρ l = some (.pointer (some ⟨b, 0, none⟩)) ∧ w = .pointer (some ⟨b, off, none⟩)
  | .ep l j sz off, w => ∃ ad n c, ρ l = some (.slice (some ad) n c) ∧ w = .pointer (some ((ad : Addr).add (j * sz + off))) ∧ j < n
  | .dp K x off, w => ∃ ad cs, w = .pointer (some ((ad : Addr).add off)) ∧ ¬ X ad.block ∧ ad.block < W.heap.size ∧ (K.sem P).cells X W x cs ∧ ∀ (i : Nat) u, cs[i]? = some u → W.cell? (ad.add i) = some u
  | .clo f caps, w => ∃ vs : List Value, w = .func (.func f) #[] vs.toArray ∧ RepCaps P ρ X W caps vs
  | .inn l vl j, w => ∃ us : List Value, ρ vl = some (.tuple us.toArray) ∧ us[j]? = some w ∧ (∃ a n c, w = .slice a n c) ∧ (ρ l).isSome = true
  | .pt l off n j, w => (∃ b, ρ l = some (.pointer (some ⟨b, 0, none⟩)) ∧ w = .pointer (some ⟨b, off + j.toNat, none⟩)) ∧ 0 ≤ j ∧ j < (n : Int)
  | .bsl l lo hi n, w => (∃ b ad, ρ l = some (.pointer (some ⟨b, 0, none⟩)) ∧ w = .slice (some ad) (hi - lo) (n - lo) ∧ (lo < hi → ad = ⟨b, lo, none⟩)) ∧ lo ≤ hi ∧ hi ≤ n ∧ n ≤ 1000
  | .iep l vl j i sz off, w => ∃ (us : List Value) (ad : Addr) (n c : Nat), ρ vl = some (.tuple us.toArray) ∧ us[j]? = some (.slice (some ad) n c) ∧ w = .pointer (some (ad.add (i * sz + off))) ∧ i < n ∧ (ρ l).isSome = true
  | .sub l lo hi sz, w => ∃ A0 n c, ρ l = some (.slice A0 n c) ∧ lo ≤ hi ∧ hi ≤ n ∧ ∃ A m, w = .slice A (hi - lo) m ∧ hi - lo ≤ m ∧ m ≤ maxLen ∧ (lo = 0 → A = A0 ∧ m = c) ∧ (lo < hi → ∃ ad, A0 = some ad ∧ A = some ((ad : Addr).add (lo * sz)))

def RepCs (ρ : Lab) (X : Nat → Prop) (W : World) : List SC → List Value → Prop
  | [], vs => vs = []
  | c :: r, vs => ∃ v vs', vs = v :: vs' ∧ RepC P ρ X W c v ∧ RepCs ρ X W r vs'

def RepV1 (ρ : Lab) (X : Nat → Prop) (W : World) : Bool → List SC → Value → Prop
  | false, cs, v => ∃ c, cs = [c] ∧ RepC P ρ X W c v
  | true, cs, v => ∃ vs : List Value, v = .agg vs.toArray ∧ RepCs P ρ X W cs vs

def RepT (ρ : Lab) (X : Nat → Prop) (W : World) : List (Bool × List SC) → List Value → Prop
  | [], vs => vs = []
  | c :: r, vs => ∃ v vs', vs = v :: vs' ∧ RepV1 P ρ X W c.1 c.2 v ∧ RepT ρ X W r vs'

def RepV (ρ : Lab) (X : Nat → Prop) (W : World) : SV → Value → Prop
  | .any, _ => True
  | .mk a cs, v => RepV1 P ρ X W a cs v
  | .tup l, v => ∃ vs : List Value, v = .tuple vs.toArray ∧ RepT P ρ X W l vs
end

section
variable {P : Program} {ρ ρ' : Lab} {X X' : Nat → Prop} {W W' : World}

theorem RepCap.mono (hρ : ρ.le ρ') (e : Evo X W X' W') : ∀ {c v}, RepCap P ρ X W c v → RepCap P ρ' X' W' c v
  | .l m, v, ⟨h, hb⟩ => ⟨hρ _ _ h, hb⟩
  | .d t K x, v, h => (Kd.stands P (.ptr t K)).val e h

theorem Lab.isSome {ρ ρ' : Lab} (h : ρ.le ρ') {l : Nat} (hl : (ρ l).isSome = true) : (ρ' l).isSome = true := by
  cases hv : ρ l with
  | none => rw [hv] at hl; cases hl
  | some v => rw [h l v hv]; rfl

theorem RepCaps.mono (hρ : ρ.le ρ') (e : Evo X W X' W') : ∀ {cs vs}, RepCaps P ρ X W cs vs → RepCaps P ρ' X' W' cs vs
  | [], _, h => h
  | c :: r, _, ⟨v, vs', h, h1, h2⟩ => ⟨v, vs', h, h1.mono hρ e, RepCaps.mono hρ e h2⟩

theorem RepC.mono (hρ : ρ.le ρ') (e : Evo X W X' W') : ∀ {c v}, RepC P ρ X W c v → RepC P ρ' X' W' c v
  | .v u, _, h => h
  | .d K x, _, h => (Kd.stands P K).cells e h
  | .fr t K xs, _, ⟨h1, h2⟩ => ⟨h1, (Kd.stands P (.sl t K)).cells e h2⟩
  | .nl _ _, _, h => h
  | .own l, _, ⟨h, h1⟩ => ⟨hρ _ _ h, h1⟩
  | .om l, _, ⟨h, h1⟩ => ⟨hρ _ _ h, h1⟩
  | .ptr l off, _, ⟨b, h, h1⟩ => ⟨b, hρ _ _ h, h1⟩
  | .pt l off n j, _, ⟨⟨b, h, h1⟩, h2⟩ => ⟨⟨b, hρ _ _ h, h1⟩, h2⟩
  | .bsl l lo hi n, _, ⟨⟨b, ad, h, h1⟩, h2⟩ => ⟨⟨b, ad, hρ _ _ h, h1⟩, h2⟩
  | .ep l j sz off, _, ⟨b, n, c, h, h1⟩ => ⟨b, n, c, hρ _ _ h, h1⟩
  | .dp K x off, _, ⟨ad, cs, h, h1, h2, h3, h4⟩ => ⟨ad, cs, h, e.notIn h1 h2, Nat.lt_of_lt_of_le h2 e.size, (Kd.stands P K).cells e h3, fun i u hu => (e.row h1 (h4 i u hu)).2⟩
  | .clo f caps, _, ⟨vs, h, h1⟩ => ⟨vs, h, h1.mono hρ e⟩
  | .inn l vl j, _, ⟨us, h, h1, h2, h3⟩ => ⟨us, hρ _ _ h, h1, h2, Lab.isSome hρ h3⟩
  | .iep l vl j i sz off, _, ⟨us, ad, n, c, h, h1, h2, h3, h4⟩ => ⟨us, ad, n, c, hρ _ _ h, h1, h2, h3, Lab.isSome hρ h4⟩
  | .sub l lo hi sz, _, ⟨A0, n, c, h, h1⟩ => ⟨A0, n, c, hρ _ _ h, h1⟩

theorem RepCs.mono (hρ : ρ.le ρ') (e : Evo X W X' W') : ∀ {cs vs}, RepCs P ρ X W cs vs → RepCs P ρ' X' W' cs vs
  | [], _, h => h
  | c :: r, _, ⟨v, vs', h, h1, h2⟩ => ⟨v, vs', h, h1.mono hρ e, RepCs.mono hρ e h2⟩

theorem RepV1.mono (hρ : ρ.le ρ') (e : Evo X W X' W') : ∀ {a cs v}, RepV1 P ρ X W a cs v → RepV1 P ρ' X' W' a cs v
  | false, _, _, ⟨c, h, h1⟩ => ⟨c, h, h1.mono hρ e⟩
  | true, _, _, ⟨vs, h, h1⟩ => ⟨vs, h, h1.mono hρ e⟩

theorem RepT.mono (hρ : ρ.le ρ') (e : Evo X W X' W') : ∀ {l vs}, RepT P ρ X W l vs → RepT P ρ' X' W' l vs
  | [], _, h => h
  | c :: r, _, ⟨v, vs', h, h1, h2⟩ => ⟨v, vs', h, h1.mono hρ e, RepT.mono hρ e h2⟩

theorem RepV.mono (hρ : ρ.le ρ') (e : Evo X W X' W') : ∀ {s v}, RepV P ρ X W s v → RepV P ρ' X' W' s v
  | .any, _, _ => trivial
  | .mk _ _, _, h => RepV1.mono hρ e h
  | .tup _, _, ⟨vs, h, h1⟩ => ⟨vs, h, h1.mono hρ e⟩

theorem Kd.cells_one1 {K : Kd} {x : K.T} {v : Value} (h : (K.sem P).cells X W x [v]) : v.oneCell' = true := Kd.cells_one P K h v (by simp)

theorem RepC.one : ∀ {c v}, RepC P ρ X W c v → v.oneCell' = true
  | .v u, _, ⟨h, h1⟩ => by rw [h]; exact h1
  | .d K x, _, h => Kd.cells_one1 h
  | .fr t K xs, _, ⟨h1, h2⟩ => Kd.cells_one1 h2
  | .nl _ _, _, h => by rw [show _ = Value.slice none 0 0 from h]; rfl
  | .own l, _, ⟨_, a, n, c, h⟩ => by rw [h]; rfl
  | .om l, _, ⟨_, b, h⟩ => by rw [h]; rfl
  | .ptr l off, _, ⟨b, _, h⟩ => by rw [h]; rfl
  | .pt l off n j, _, ⟨⟨b, _, h⟩, _⟩ => by rw [h]; rfl
  | .bsl l lo hi n, _, ⟨⟨b, _, _, h, _⟩, _⟩ => by rw [h]; rfl
  | .ep l j sz off, _, ⟨b, n, c, _, h, _⟩ => by rw [h]; rfl
  | .dp K x off, _, ⟨ad, cs, h, _⟩ => by rw [h]; rfl
  | .clo f caps, _, ⟨vs, h, _⟩ => by rw [h]; rfl
  | .inn l vl j, _, ⟨us, _, _, ⟨a, n, c, h⟩, _⟩ => by rw [h]; rfl
  | .iep l vl j i sz off, _, ⟨us, ad, n, c, _, _, h, _⟩ => by rw [h]; rfl
  | .sub l lo hi sz, _, ⟨A0, n, c, _, _, _, A, m, h, _⟩ => by rw [h]; rfl

theorem RepCs.length : ∀ {cs vs}, RepCs P ρ X W cs vs → vs.length = cs.length
  | [], _, h => by rw [show _ = [] from h]; rfl
  | c :: r, _, ⟨v, vs', h, _, h2⟩ => by rw [h]; simp [RepCs.length h2]

theorem RepCs.one : ∀ {cs vs}, RepCs P ρ X W cs vs → ∀ u ∈ vs, u.oneCell' = true
  | [], _, h => by rw [show _ = [] from h]; simp
  | c :: r, _, ⟨v, vs', h, h1, h2⟩ => by
    rw [h]
    intro u hu
    rcases List.mem_cons.1 hu with rfl | hu
    · exact h1.one
    · exact h2.one u hu

theorem RepCs.get : ∀ {cs vs}, RepCs P ρ X W cs vs → ∀ (i : Nat) c, cs[i]? = some c → ∃ v, vs[i]? = some v ∧ RepC P ρ X W c v
  | c :: r, _, ⟨v, vs', h, h1, h2⟩, 0, d, hd => by
    rw [h]
    simp only [List.getElem?_cons_zero, Option.some.injEq] at hd ⊢
    subst hd
    exact ⟨v, rfl, h1⟩
  | c :: r, _, ⟨v, vs', h, h1, h2⟩, i + 1, d, hd => by
    rw [h]
    simp only [List.getElem?_cons_succ] at hd ⊢
    exact h2.get i d hd

theorem RepCs.append : ∀ {cs ds vs us}, RepCs P ρ X W cs vs → RepCs P ρ X W ds us → RepCs P ρ X W (cs ++ ds) (vs ++ us)
  | [], _, _, _, h, h' => by rw [show _ = [] from h]; exact h'
  | c :: r, _, _, _, ⟨v, vs', h, h1, h2⟩, h' => ⟨v, vs' ++ _, by rw [h]; rfl, h1, RepCs.append h2 h'⟩

theorem RepCs.drop : ∀ {cs vs} (n : Nat), RepCs P ρ X W cs vs → RepCs P ρ X W (cs.drop n) (vs.drop n)
  | cs, _, 0, h => by simpa using h
  | [], _, n + 1, h => by rw [show _ = [] from h]; simp [RepCs]
  | c :: r, _, n + 1, ⟨v, vs', h, h1, h2⟩ => by rw [h]; exact RepCs.drop n h2

theorem RepCs.take : ∀ {cs vs} (n : Nat), RepCs P ρ X W cs vs → RepCs P ρ X W (cs.take n) (vs.take n)
  | cs, _, 0, h => by simp [RepCs]
  | [], _, n + 1, h => by rw [show _ = [] from h]; simp [RepCs]
  | c :: r, _, n + 1, ⟨v, vs', h, h1, h2⟩ => by rw [h]; exact ⟨v, vs'.take n, rfl, h1, RepCs.take n h2⟩

theorem RepCs.splice {cs ds : List SC} {vs us : List Value} (off : Nat) (h : RepCs P ρ X W cs vs) (h' : RepCs P ρ X W ds us) : RepCs P ρ X W (GX.splice cs off ds) (GX.splice vs off us) := by
  unfold GX.splice
  rw [h'.length]
  exact ((h.take off).append h').append (h.drop _)

theorem repInt {k : IntKind} {x : Int} {w : Value} : RepC P ρ X W (.d (.int k) x) w ↔ w = .int k x := by
  constructor
  · rintro ⟨v, hv, _, h⟩
    cases hv
    exact h
  · rintro rfl
    exact ⟨_, rfl, rfl, rfl⟩
theorem repBool {x : Bool} {w : Value} : RepC P ρ X W (.d .bool x) w ↔ w = .bool x := by
  constructor
  · rintro ⟨v, hv, _, h⟩
    cases hv
    exact h
  · rintro rfl
    exact ⟨_, rfl, rfl, rfl⟩
theorem allI_ok {k : IntKind} : ∀ {cs : List SC} {xs : List Int} {us : List Value}, allI k cs = some xs → RepCs P ρ X W cs us → us = xs.map (Value.int k) ∧ cs = xs.map fun x => .d (.int k) x
  | [], xs, us, h, hr => by
    cases h
    exact ⟨hr, rfl⟩
  | c :: r, xs, us, h, ⟨v, vs', e0, h1, h2⟩ => by
    subst e0
    unfold allI at h
    split at h
    · rename_i heq; cases heq
    · rename_i k' x r' heq
      cases heq
      split at h
      · rename_i hk
        subst hk
        obtain ⟨ys, hy, rfl⟩ := Option.map_eq_some_iff.1 h
        obtain ⟨e1, e2⟩ := allI_ok hy h2
        exact ⟨by rw [repInt.1 h1, e1]; rfl, by rw [e2]; rfl⟩
      · cases h
    · cases h
theorem allB_ok : ∀ {cs : List SC} {xs : List Bool} {us : List Value}, allB cs = some xs → RepCs P ρ X W cs us → us = xs.map Value.bool ∧ cs = xs.map fun x => .d .bool x
  | [], xs, us, h, hr => by
    cases h
    exact ⟨hr, rfl⟩
  | c :: r, xs, us, h, ⟨v, vs', e0, h1, h2⟩ => by
    subst e0
    unfold allB at h
    split at h
    · rename_i heq; cases heq
    · rename_i x r' heq
      cases heq
      obtain ⟨ys, hy, rfl⟩ := Option.map_eq_some_iff.1 h
      obtain ⟨e1, e2⟩ := allB_ok hy h2
      exact ⟨by rw [repBool.1 h1, e1]; rfl, by rw [e2]; rfl⟩
    · cases h
theorem getD_of {α : Type} {xs : List α} {n : Nat} (h : n < xs.length) (d : α) : xs.getD n d = xs[n] := by simp [List.getD_eq_getElem?_getD, h]
theorem pickD_ok {j : Int} {cs : List SC} {us : List Value} {c : SC} (h : pickD j cs = some c) (hr : RepCs P ρ X W cs us) (h0 : 0 ≤ j) (h1 : j < (cs.length : Int)) : ∃ w, us[j.toNat]? = some w ∧ RepC P ρ X W c w := by
  unfold pickD at h
  split at h
  · obtain ⟨xs, hx, rfl⟩ := Option.map_eq_some_iff.1 h
    obtain ⟨e1, e2⟩ := allI_ok hx hr
    have hl : j.toNat < xs.length := by
      have := congrArg List.length e2
      rw [List.length_map] at this
      omega
    refine ⟨_, ?_, repInt.2 rfl⟩
    rw [e1, List.getElem?_map, List.getElem?_eq_getElem hl]
    exact congrArg some (congrArg _ (getD_of hl _).symm)
  · obtain ⟨xs, hx, rfl⟩ := Option.map_eq_some_iff.1 h
    obtain ⟨e1, e2⟩ := allB_ok hx hr
    have hl : j.toNat < xs.length := by
      have := congrArg List.length e2
      rw [List.length_map] at this
      omega
    refine ⟨_, ?_, repBool.2 rfl⟩
    rw [e1, List.getElem?_map, List.getElem?_eq_getElem hl]
    exact congrArg some (congrArg _ (getD_of hl _).symm)
  · cases h
theorem rangeMap {α β : Type} (ys : List α) (d : α) (f : α → β) : ((List.range ys.length).map fun i => f (ys.getD i d)) = ys.map f := by
  apply List.ext_getElem?
  intro i
  rw [List.getElem?_map, List.getElem?_map]
  by_cases hi : i < ys.length
  · rw [List.getElem?_range hi, List.getElem?_eq_getElem hi]
    exact congrArg some (congrArg f (getD_of hi _))
  · rw [List.getElem?_eq_none (by simpa using hi), List.getElem?_eq_none (by simpa using hi)]
    rfl
theorem splice_set {α : Type} (us : List α) (n : Nat) (w : α) (h : n < us.length) : GX.splice us n [w] = us.set n w := by
  unfold GX.splice
  apply List.ext_getElem?
  intro i
  rw [List.append_assoc, List.getElem?_append, List.length_take, Nat.min_eq_left (by omega), List.getElem?_set]
  split
  · rename_i hi
    rw [if_neg (by omega), List.getElem?_take, if_pos hi]
  · rename_i hi
    by_cases e : n = i
    · rw [if_pos e]
      subst e
      simp [h]
    · rw [if_neg e, List.getElem?_append, List.length_singleton, if_neg (by omega), List.getElem?_drop]
      congr 1
      omega
theorem repAllI {k : IntKind} : ∀ xs : List Int, RepCs P ρ X W (xs.map fun x => .d (.int k) x) (xs.map (Value.int k))
  | [] => rfl
  | x :: r => ⟨_, _, rfl, repInt.2 rfl, repAllI r⟩
theorem repAllB : ∀ xs : List Bool, RepCs P ρ X W (xs.map fun x => .d .bool x) (xs.map Value.bool)
  | [] => rfl
  | x :: r => ⟨_, _, rfl, repBool.2 rfl, repAllB r⟩
theorem setD_ok {j : Int} {cs v ds : List SC} {us vs : List Value} (h : setD j cs v = some ds) (hr : RepCs P ρ X W cs us) (hv : RepCs P ρ X W v vs) (h0 : 0 ≤ j) (h1 : j < (cs.length : Int)) : RepCs P ρ X W ds (GX.splice us j.toNat vs) ∧ ds.length = cs.length ∧ vs.length = 1 := by
  unfold setD at h
  split at h
  · rename_i k u
    obtain ⟨xs, hx, rfl⟩ := Option.map_eq_some_iff.1 h
    obtain ⟨e1, e2⟩ := allI_ok hx hr
    obtain ⟨w, vs', rfl, hw, rfl⟩ := hv
    obtain rfl := repInt.1 hw
    have hl : j.toNat < xs.length := by
      have := congrArg List.length e2
      rw [List.length_map] at this
      omega
    have e3 : ((List.range xs.length).map fun i => SC.d (.int k) (List.getD (α := Int) (List.set (α := Int) xs j.toNat u) i u)) = (List.set (α := Int) xs j.toNat u).map fun x => SC.d (.int k) x := by
      have := rangeMap (α := Int) (xs.set j.toNat u) u fun x => SC.d (.int k) x
      rwa [show (List.set (α := Int) xs j.toNat u).length = xs.length from List.length_set] at this
    refine ⟨?_, by rw [List.length_map, List.length_range]; exact (by rw [e2, List.length_map]), rfl⟩
    show RepCs P ρ X W ((List.range xs.length).map fun i => SC.d (.int k) (List.getD (α := Int) (List.set (α := Int) xs j.toNat u) i u)) _
    rw [e3, splice_set _ _ _ (by rw [e1, List.length_map]; exact hl), e1]
    have e4 := List.map_set (f := (Value.int k)) (l := xs) (i := j.toNat) (a := u)
    have e5 := repAllI (P := P) (ρ := ρ) (X := X) (W := W) (k := k) (List.set (α := Int) xs j.toNat u)
    rw [e4] at e5
    exact e5
  · rename_i u
    obtain ⟨xs, hx, rfl⟩ := Option.map_eq_some_iff.1 h
    obtain ⟨e1, e2⟩ := allB_ok hx hr
    obtain ⟨w, vs', rfl, hw, rfl⟩ := hv
    obtain rfl := repBool.1 hw
    have hl : j.toNat < xs.length := by
      have := congrArg List.length e2
      rw [List.length_map] at this
      omega
    have e3 : ((List.range xs.length).map fun i => SC.d .bool (List.getD (α := Bool) (List.set (α := Bool) xs j.toNat u) i u)) = (List.set (α := Bool) xs j.toNat u).map fun x => SC.d .bool x := by
      have := rangeMap (α := Bool) (xs.set j.toNat u) u fun x => SC.d .bool x
      rwa [show (List.set (α := Bool) xs j.toNat u).length = xs.length from List.length_set] at this
    refine ⟨?_, by rw [List.length_map, List.length_range]; exact (by rw [e2, List.length_map]), rfl⟩
    show RepCs P ρ X W ((List.range xs.length).map fun i => SC.d .bool (List.getD (α := Bool) (List.set (α := Bool) xs j.toNat u) i u)) _
    rw [e3, splice_set _ _ _ (by rw [e1, List.length_map]; exact hl), e1]
    have e4 := List.map_set (f := Value.bool) (l := xs) (i := j.toNat) (a := u)
    have e5 := repAllB (P := P) (ρ := ρ) (X := X) (W := W) (List.set (α := Bool) xs j.toNat u)
    rw [e4] at e5
    exact e5
  · cases h

theorem RepCs.of_cells : ∀ (K : Kd) {x : K.T} {vs}, (K.sem P).cells X W x vs → RepCs P ρ X W (K.fl x) vs
  | .int _, _, _, h => let ⟨v, hv, h1, hr⟩ := h; ⟨v, [], hv, ⟨v, rfl, h1, hr⟩, rfl⟩
  | .bool, _, _, h => let ⟨v, hv, h1, hr⟩ := h; ⟨v, [], hv, ⟨v, rfl, h1, hr⟩, rfl⟩
  | .str, _, _, h => let ⟨v, hv, h1, hr⟩ := h; ⟨v, [], hv, ⟨v, rfl, h1, hr⟩, rfl⟩
  | .sl _ _, _, _, h => let ⟨v, hv, h1, hr⟩ := h; ⟨v, [], hv, ⟨v, rfl, h1, hr⟩, rfl⟩
  | .nsl _ _, _, _, h => let ⟨v, hv, h1, hr⟩ := h; ⟨v, [], hv, ⟨v, rfl, h1, hr⟩, rfl⟩
  | .fn _ _, _, _, h => let ⟨v, hv, h1, hr⟩ := h; ⟨v, [], hv, ⟨v, rfl, h1, hr⟩, rfl⟩
  | .ptr _ _, _, _, h => let ⟨v, hv, h1, hr⟩ := h; ⟨v, [], hv, ⟨v, rfl, h1, hr⟩, rfl⟩
  | .seq _, _, _, h => let ⟨v, hv, h1, hr⟩ := h; ⟨v, [], hv, ⟨v, rfl, h1, hr⟩, rfl⟩
  | .mem _, _, _, h => let ⟨v, hv, h1, hr⟩ := h; ⟨v, [], hv, ⟨v, rfl, h1, hr⟩, rfl⟩
  | .pair A B, x, _, ⟨c1, c2, h, h1, h2⟩ => by rw [h]; exact (RepCs.of_cells A h1).append (RepCs.of_cells B h2)
  | .unit, _, _, h => h
  | .agg K, _, _, h => RepCs.of_cells K h

theorem RepV.of_val : ∀ (K : Kd) {x : K.T} {v}, (K.sem P).val X W x v → RepV P ρ X W (mkv K x) v ∧ v.oneCell' = !K.isAgg
  | .int _, _, _, h => ⟨⟨_, rfl, ⟨_, rfl, by rw [show _ = Value.int _ _ from h]; rfl, h⟩⟩, by rw [show _ = Value.int _ _ from h]; rfl⟩
  | .bool, _, _, h => ⟨⟨_, rfl, ⟨_, rfl, by rw [show _ = Value.bool _ from h]; rfl, h⟩⟩, by rw [show _ = Value.bool _ from h]; rfl⟩
  | .str, _, _, h => ⟨⟨_, rfl, ⟨_, rfl, by rw [show _ = Value.string _ from h]; rfl, h⟩⟩, by rw [show _ = Value.string _ from h]; rfl⟩
  | .sl _ _, _, _, h => by
    have h1 : _ := h
    obtain ⟨A, c, hv, _⟩ := h1
    exact ⟨⟨_, rfl, ⟨_, rfl, by rw [hv]; rfl, h⟩⟩, by rw [hv]; rfl⟩
  | .nsl _ K, (x : Option (List K.T)), v, h => by
    have h1 : _ := h
    obtain ⟨h0, h2⟩ := h1
    have : ∃ a n c, v = Value.slice a n c := by
      cases x with
      | none => exact ⟨_, _, _, h0 rfl⟩
      | some xs => obtain ⟨A, c, hv, _⟩ := h2 xs rfl; exact ⟨_, _, _, hv⟩
    obtain ⟨a, n, c, hv⟩ := this
    exact ⟨⟨_, rfl, ⟨_, rfl, by rw [hv]; rfl, h⟩⟩, by rw [hv]; rfl⟩
  | .fn _ _, _, _, h => by
    have h1 : _ := h
    obtain ⟨⟨f, fi, cap, hv⟩, _⟩ := h1
    exact ⟨⟨_, rfl, ⟨_, rfl, by rw [hv]; rfl, h⟩⟩, by rw [hv]; rfl⟩
  | .ptr _ _, _, _, h => by
    have h1 : _ := h
    obtain ⟨b, cs, hv, _⟩ := h1
    exact ⟨⟨_, rfl, ⟨_, rfl, by rw [hv]; rfl, h⟩⟩, by rw [hv]; rfl⟩
  | .seq _, _, _, h => by
    have h1 : _ := h
    obtain ⟨⟨f, fi, cap, hv⟩, _⟩ := h1
    exact ⟨⟨_, rfl, ⟨_, rfl, by rw [hv]; rfl, h⟩⟩, by rw [hv]; rfl⟩
  | .mem _, _, _, h => by
    have h1 : _ := h
    obtain ⟨_, m, hv, _⟩ := h1
    exact ⟨⟨_, rfl, ⟨_, rfl, by rw [hv]; rfl, h⟩⟩, by rw [hv]; rfl⟩
  | .pair A B, _, _, h => h.elim
  | .unit, _, _, h => h.elim
  | .agg K, _, _, ⟨cs, h, h1⟩ => ⟨⟨cs, h, RepCs.of_cells K h1⟩, by rw [h]; rfl⟩

theorem RepT.of_vals : ∀ (K : Kd) {x : K.T} {vs}, (K.sem P).vals X W x vs → RepT P ρ X W (K.comps x) vs
  | .int k, x, _, ⟨v, hv, h⟩ => ⟨v, [], hv, (RepV.of_val (.int k) h).1, rfl⟩
  | .bool, x, _, ⟨v, hv, h⟩ => ⟨v, [], hv, (RepV.of_val .bool h).1, rfl⟩
  | .str, x, _, ⟨v, hv, h⟩ => ⟨v, [], hv, (RepV.of_val .str h).1, rfl⟩
  | .sl e K, x, _, ⟨v, hv, h⟩ => ⟨v, [], hv, (RepV.of_val (.sl e K) h).1, rfl⟩
  | .nsl e K, x, _, ⟨v, hv, h⟩ => ⟨v, [], hv, (RepV.of_val (.nsl e K) h).1, rfl⟩
  | .fn A B, x, _, ⟨v, hv, h⟩ => ⟨v, [], hv, (RepV.of_val (.fn A B) h).1, rfl⟩
  | .ptr t K, x, _, ⟨v, hv, h⟩ => ⟨v, [], hv, (RepV.of_val (.ptr t K) h).1, rfl⟩
  | .seq A, x, _, ⟨v, hv, h⟩ => ⟨v, [], hv, (RepV.of_val (.seq A) h).1, rfl⟩
  | .mem A, x, _, ⟨v, hv, h⟩ => ⟨v, [], hv, (RepV.of_val (.mem A) h).1, rfl⟩
  | .pair A B, x, _, ⟨v, vs, hv, h, h2⟩ => ⟨v, vs, hv, (RepV.of_val A h).1, RepT.of_vals B h2⟩
  | .unit, x, _, h => h
  | .agg K, x, _, ⟨cs, hv, h⟩ => ⟨.agg cs.toArray, [], hv, ⟨cs, rfl, RepCs.of_cells K h⟩, rfl⟩

theorem RepV.of_ret : ∀ (K : Kd) {x : K.T} {v}, (K.sem P).ret X W x v → RepV P ρ X W (retv K x) v
  | .int k, x, _, h => (RepV.of_val (.int k) h).1
  | .bool, x, _, h => (RepV.of_val .bool h).1
  | .str, x, _, h => (RepV.of_val .str h).1
  | .sl e K, x, _, h => (RepV.of_val (.sl e K) h).1
  | .nsl e K, x, _, h => (RepV.of_val (.nsl e K) h).1
  | .fn A B, x, _, h => (RepV.of_val (.fn A B) h).1
  | .ptr t K, x, _, h => (RepV.of_val (.ptr t K) h).1
  | .seq A, x, _, h => (RepV.of_val (.seq A) h).1
  | .mem A, x, _, h => (RepV.of_val (.mem A) h).1
  | .pair A B, x, _, ⟨v, vs, hv, h, h2⟩ => ⟨v :: vs, hv, v, vs, rfl, (RepV.of_val A h).1, RepT.of_vals B h2⟩
  | .unit, x, _, h => ⟨[], h, rfl⟩
  | .agg K, x, _, ⟨cs, hv, h⟩ => ⟨cs, hv, RepCs.of_cells K h⟩

theorem RepV.of_vals : ∀ (K : Kd) {x : K.T} {vs}, (K.sem P).vals X W x vs → (argsSV K x).length = vs.length ∧ ∀ (i : Nat) v, vs[i]? = some v → RepV P ρ X W (tmOf (argsSV K x) i) v
  | .int k, x, _, ⟨v, hv, h⟩ => by subst hv; exact ⟨rfl, fun i u hu => by cases i with | zero => cases hu; exact (RepV.of_val (.int k) h).1 | succ i => simp at hu⟩
  | .bool, x, _, ⟨v, hv, h⟩ => by subst hv; exact ⟨rfl, fun i u hu => by cases i with | zero => cases hu; exact (RepV.of_val .bool h).1 | succ i => simp at hu⟩
  | .str, x, _, ⟨v, hv, h⟩ => by subst hv; exact ⟨rfl, fun i u hu => by cases i with | zero => cases hu; exact (RepV.of_val .str h).1 | succ i => simp at hu⟩
  | .sl e K, x, _, ⟨v, hv, h⟩ => by subst hv; exact ⟨rfl, fun i u hu => by cases i with | zero => cases hu; exact (RepV.of_val (.sl e K) h).1 | succ i => simp at hu⟩
  | .nsl e K, x, _, ⟨v, hv, h⟩ => by subst hv; exact ⟨rfl, fun i u hu => by cases i with | zero => cases hu; exact (RepV.of_val (.nsl e K) h).1 | succ i => simp at hu⟩
  | .fn A B, x, _, ⟨v, hv, h⟩ => by subst hv; exact ⟨rfl, fun i u hu => by cases i with | zero => cases hu; exact (RepV.of_val (.fn A B) h).1 | succ i => simp at hu⟩
  | .ptr t K, x, _, ⟨v, hv, h⟩ => by subst hv; exact ⟨rfl, fun i u hu => by cases i with | zero => cases hu; exact (RepV.of_val (.ptr t K) h).1 | succ i => simp at hu⟩
  | .seq A, x, _, ⟨v, hv, h⟩ => by subst hv; exact ⟨rfl, fun i u hu => by cases i with | zero => cases hu; exact (RepV.of_val (.seq A) h).1 | succ i => simp at hu⟩
  | .mem A, x, _, ⟨v, hv, h⟩ => by subst hv; exact ⟨rfl, fun i u hu => by cases i with | zero => cases hu; exact (RepV.of_val (.mem A) h).1 | succ i => simp at hu⟩
  | .agg K, x, _, ⟨cs, hv, h⟩ => by subst hv; exact ⟨rfl, fun i u hu => by cases i with | zero => cases hu; exact ⟨cs, rfl, RepCs.of_cells K h⟩ | succ i => simp at hu⟩
  | .unit, x, _, h => by simp only [Kd.sem] at h; subst h; exact ⟨rfl, fun i u hu => by simp at hu⟩
  | .pair A B, x, _, ⟨v, vs, hv, h, h2⟩ => by
    subst hv
    obtain ⟨hl, hg⟩ := RepV.of_vals B h2
    refine ⟨by simp [argsSV, hl], fun i u hu => ?_⟩
    cases i with
    | zero => cases hu; exact (RepV.of_val A h).1
    | succ i => exact hg i u (by simpa using hu)
end
end Go.GX
set_option linter.unusedVariables false
namespace Go.GX
variable [Inhabited BaseD]
open Go.RowKit Go.Shelf Go.Proofs

def GlbOK (P : Program) (glb : Nat → Option GV) (X : Nat → Prop) (W : World) : Prop :=
  base0 ≤ W.heap.size ∧ ∀ g v, glb g = some v → ∃ ty, ((Kd.ptr ty v.K).sem P).val X W v.x (.pointer (some ⟨g, 0, none⟩))

theorem GlbOK.evo {P : Program} {glb : Nat → Option GV} {X X' : Nat → Prop} {W W' : World} (h : GlbOK P glb X W) (e : Evo X W X' W') : GlbOK P glb X' W' :=
  ⟨Nat.le_trans h.1 e.size, fun g v hv => by
    obtain ⟨ty, ht⟩ := h.2 g v hv
    exact ⟨ty, (Kd.stands P (.ptr ty v.K)).val e ht⟩⟩

def HE.isLn : HE → Bool
  | .ln _ _ _ => true
  | _ => false

def ownBlk : HE → Value → Option Nat
  | .box true _ _, .pointer (some a) => some a.block
  | .row _ _ _ _, .slice (some a) _ _ => some a.block
  | .ln _ _ (_ :: _), .slice (some a) _ _ => some a.block
  | .mat _ _ _ _ _ _ _ _, .slice (some a) _ _ => some a.block
  | .mp _ _ _, .map (some b) => some b
  | _, _ => none

def isHole (hole : Option Nat) (j : Nat) : Bool :=
  match hole with
  | some h => Nat.beq h j
  | none => false

def HE.ver : HE → Nat → Option Nat
  | .mat _ _ _ _ _ _ hole vl, j => cond (isHole hole j) none (some vl)
  | _, _ => none

def OwnB (ρ : Lab) (he : HE) (v : Value) (k : Nat) : Prop :=
  ownBlk he v = some k ∨ ∃ vl j u, ∃ us : List Value, he.ver j = some vl ∧ ρ vl = some (.tuple us.toArray) ∧ us[j]? = some u ∧ u.ownBlock = some k

theorem ownB_plain {ρ : Lab} {he : HE} (h : ∀ j, he.ver j = none) {v : Value} {k : Nat} : OwnB ρ he v k ↔ ownBlk he v = some k := by
  constructor
  · rintro (h1 | ⟨vl, j, u, us, h1, _⟩)
    · exact h1
    · rw [h j] at h1; cases h1
  · exact .inl

theorem ownB_box {ρ : Lab} {o : Bool} {ty : TypeId} {cs : List SC} {v : Value} {k : Nat} : OwnB ρ (.box o ty cs) v k ↔ ownBlk (.box o ty cs) v = some k := ownB_plain fun _ => rfl
theorem ownB_row {ρ : Lab} {nn : Bool} {e : TypeId} {K : Kd} {xs : List K.T} {v : Value} {k : Nat} : OwnB ρ (.row nn e K xs) v k ↔ ownBlk (.row nn e K xs) v = some k := ownB_plain fun _ => rfl
theorem ownB_dat {ρ : Lab} {nn : Bool} {e : TypeId} {K : Kd} {xs : List K.T} {v : Value} {k : Nat} : OwnB ρ (.dat nn e K xs) v k ↔ ownBlk (.dat nn e K xs) v = some k := ownB_plain fun _ => rfl
theorem ownB_ln {ρ : Lab} {e : TypeId} {K : Kd} {xs : List K.T} {v : Value} {k : Nat} : OwnB ρ (.ln e K xs) v k ↔ ownBlk (.ln e K xs) v = some k := ownB_plain fun _ => rfl

theorem ownB_mp {ρ : Lab} {q : IntKind} {K : Kd} {es : List (Int × K.T)} {v : Value} {k : Nat} : OwnB ρ (.mp q K es) v k ↔ ownBlk (.mp q K es) v = some k := ownB_plain fun _ => rfl

theorem OwnB.le {ρ ρ' : Lab} (hρ : ρ.le ρ') {he : HE} {v : Value} {k : Nat} (h : OwnB ρ he v k) : OwnB ρ' he v k := by
  rcases h with h | ⟨vl, j, u, us, h1, h2, h3, h4⟩
  · exact .inl h
  · exact .inr ⟨vl, j, u, us, h1, hρ _ _ h2, h3, h4⟩

section
variable (P : Program)

def InRow (W : World) (e1 : TypeId) (K1 : Kd) (xr : List K1.T) (u : Value) : Prop :=
  ∃ fl : List Value, W.ownsRow 0 e1 K1.n u xr.length fl ∧ ∀ (i : Nat) x, xr[i]? = some x → (K1.sem P).cells (fun _ => False) W x ((fl.drop (i * K1.n)).take K1.n)

structure MatOK (W : World) (e e1 : TypeId) (K1 : Kd) (xs : List (List K1.T)) (hole : Option Nat) (us : List Value) (v : Value) : Prop where
  flat : K1.flat = true
  pos : 0 < K1.n
  len : us.length = xs.length
  out : ∃ hd : List Value, W.ownsRow 0 e 1 v xs.length hd ∧ ∀ (j : Nat) u, us[j]? = some u → isHole hole j = false → hd[j]? = some u
  inr : ∀ (j : Nat) u xr, us[j]? = some u → xs[j]? = some xr → isHole hole j = false → InRow P W e1 K1 xr u
  dis : ∀ (j j' : Nat) u u' k, j ≠ j' → us[j]? = some u → us[j']? = some u' → isHole hole j = false → isHole hole j' = false → u.ownBlock = some k → u'.ownBlock ≠ some k
  apart : ∀ (j : Nat) u k, us[j]? = some u → isHole hole j = false → u.ownBlock = some k → v.ownBlock ≠ some k

def MapRep (X : Nat → Prop) (W : World) (q : IntKind) (K : Kd) (es : List (Int × K.T)) (l : List MapEntry) : Prop :=
  (es.map (·.1)).Nodup ∧ l.length = es.length ∧ ∀ (j : Nat) e p, l[j]? = some e → es[j]? = some p → e.key = .int q p.1 ∧ (K.sem P).val X W p.2 e.val

def HEok (base : Nat) (ρ : Lab) (X : Nat → Prop) (W : World) : HE → Value → Prop
  | .box own ty cs, v => ∃ b arr, v = .pointer (some ⟨b, 0, none⟩) ∧ W.heap[b]? = some (.cells arr ty (0, 0)) ∧ RepCs P ρ X W cs arr.toList ∧ (own = false → ¬ X b) ∧ (own = true → base ≤ b)
  | .row nn e K xs, v => 0 < K.n ∧ (∃ flat : List Value, W.ownsRow base e K.n v xs.length flat ∧ ∀ (j : Nat) x, xs[j]? = some x → (K.sem P).cells X W x ((flat.drop (j * K.n)).take K.n)) ∧ (nn = true → ∃ a n c, v = .slice (some a) n c)
  | .dat nn e K xs, v => ((Kd.sl e K).sem P).val X W xs v ∧ (nn = true → ∃ a n c, v = .slice (some a) n c)
  | .ln e K xs, v => K.flat = true ∧ ∃ A c, v = .slice A xs.length c ∧ xs.length ≤ c ∧ c ≤ maxLen ∧ (xs ≠ [] → ∃ ad, A = some ad ∧ (∃ cs t fr, W.heap[(ad : Addr).block]? = some (.cells cs t fr)) ∧
      ∀ (j : Nat) x, xs[j]? = some x → ∃ ecs : List Value, (K.sem P).cells (fun _ => False) W x ecs ∧ ∀ (i : Nat) u, ecs[i]? = some u → W.cell? (ad.add (j * K.n + i)) = some u)
  | .mat nn e ag e1 K1 xs hole vl, v => (∃ us : List Value, ρ vl = some (.tuple us.toArray) ∧ MatOK P W e e1 K1 xs hole us v) ∧ (nn = true → ∃ a n c, v = .slice (some a) n c)
  | .mp q K es, v => memoOn = false ∧ ∃ b arr c, v = .map (some b) ∧ base ≤ b ∧ W.heap[b]? = some (.map arr c) ∧ MapRep P X W q K es arr.toList

def Xs (st : St) (ρ : Lab) (X0 : Nat → Prop) (k : Nat) : Prop :=
  X0 k ∨ ∃ l he s v, st.hp l = some (he, s) ∧ ρ l = some v ∧ OwnB ρ he v k

def DefOK (Bk : Nat → Prop) (W : World) (ds : List Deferred) : Prop :=
  ∃ Ds : List Nat, ds = Ds.map (fun D => ({ target := .collected D, args := #[] } : Deferred)) ∧ Ds.Nodup ∧ ∀ D, D ∈ Ds → W.heap[D]? = some (.deferred (some [])) ∧ ¬ Bk D

theorem DefOK.nil {Bk : Nat → Prop} {W : World} : DefOK Bk W [] := ⟨[], rfl, List.nodup_nil, fun D h => by simp at h⟩

theorem DefOK.keep {Bk : Nat → Prop} {W W' : World} {ds : List Deferred} (h : DefOK Bk W ds) (hk : ∀ D : Nat, W.heap[D]? = some (Obj.deferred (some [])) → W'.heap[D]? = W.heap[D]?) : DefOK Bk W' ds :=
  let ⟨Ds, h1, h2, h3⟩ := h
  ⟨Ds, h1, h2, fun D hD => ⟨(hk D (h3 D hD).1).trans (h3 D hD).1, (h3 D hD).2⟩⟩

structure Mt (glb : Nat → Option GV) (Bk X0 : Nat → Prop) (w0 : World) (st : St) (ρ : Lab) (a : Act) (W : World) : Prop where
  size : a.tmps.size = st.n
  dfr : DefOK Bk W a.defers
  tms : ∀ t, RepV P ρ (Xs st ρ X0) W (st.tm t) (a.tmps.getD t undef)
  hps : ∀ l he s, st.hp l = some (he, s) → ∃ v, ρ l = some v ∧ HEok P 0 ρ (Xs st ρ X0) W he v
  dis : ∀ l l' he he' s s' v v' k, st.hp l = some (he, s) → st.hp l' = some (he', s') → ρ l = some v → ρ l' = some v' → OwnB ρ he v k → OwnB ρ he' v' k → l = l'
  x0 : ∀ k, X0 k → k < W.heap.size
  bk : ∀ k, Bk k → k < w0.heap.size
  bel : Bel Bk w0 W
  nb : ∀ l he s v k, st.hp l = some (he, s) → ρ l = some v → OwnB ρ he v k → (he.isLn = false → ¬ Bk k) ∧ ¬ X0 k
  glb : GlbOK P glb (Xs st ρ X0) W
  dom : ∀ l v, ρ l = some v → memL l st.dom = true
  stamp : ∀ l he s, st.hp l = some (he, s) → s ≤ st.cnt
end

section
variable {P : Program} {glb : Nat → Option GV} {Bk X0 : Nat → Prop} {w0 : World} {st st' : St} {ρ ρ' : Lab} {a : Act} {W W' : World}

theorem mat_own {nn : Bool} {e : TypeId} {ag : Bool} {e1 : TypeId} {K1 : Kd} {xs : List (List K1.T)} {hole : Option Nat} {vl : Nat} {v : Value} {k : Nat} {us : List Value} (hu : ρ vl = some (.tuple us.toArray)) :
    OwnB ρ (.mat nn e ag e1 K1 xs hole vl) v k ↔ v.ownBlock = some k ∨ ∃ (j : Nat) (u : Value), isHole hole j = false ∧ us[j]? = some u ∧ u.ownBlock = some k := by
  have hb : ownBlk (.mat nn e ag e1 K1 xs hole vl) v = v.ownBlock := by
    cases v with
    | slice A n c => cases A <;> rfl
    | _ => rfl
  unfold OwnB
  rw [hb]
  refine or_congr Iff.rfl ⟨?_, ?_⟩
  · rintro ⟨vl', j, u, us', h1, h2, h3, h4⟩
    cases hh : isHole hole j with
    | true => simp [HE.ver, hh] at h1
    | false =>
      simp only [HE.ver, hh, cond_false, Option.some.injEq] at h1
      subst h1
      rw [hu] at h2
      injection h2 with h2; injection h2 with h2
      have h2 : us = us' := by simpa using h2
      subst h2
      exact ⟨j, u, hh, h3, h4⟩
  · rintro ⟨j, u, hh, h3, h4⟩
    exact ⟨vl, j, u, us, by simp [HE.ver, hh], hu, h3, h4⟩

theorem ownsRow_block {W : World} {base : Nat} {e : TypeId} {size n : Nat} {v : Value} {fl : List Value} (h : W.ownsRow base e size v n fl) {k : Nat} (hk : v.ownBlock = some k) : ∃ cs t fr, W.heap[k]? = some (.cells cs t fr) := by
  obtain ⟨_, h⟩ := h
  rcases h with ⟨rfl, _⟩ | ⟨g, cap, cur, rfl, _, h3, _⟩
  · simp [Value.ownBlock] at hk
  · simp only [Value.ownBlock, Option.some.injEq] at hk
    subst hk
    exact ⟨_, _, _, h3⟩

theorem ownsRow_keep {W W' : World} {base : Nat} {e : TypeId} {size n : Nat} {v : Value} {fl : List Value} (h : W.ownsRow base e size v n fl) (hb : ∀ k, v.ownBlock = some k → W'.heap[k]? = W.heap[k]?) : W'.ownsRow base e size v n fl := by
  obtain ⟨h0, h⟩ := h
  refine ⟨h0, ?_⟩
  rcases h with h | ⟨g, cap, cur, rfl, h2, h3, h4⟩
  · exact .inl h
  · exact .inr ⟨g, cap, cur, rfl, h2, (hb g rfl).trans h3, h4⟩

theorem HEok.obj {base : Nat} {X : Nat → Prop} {he : HE} {v : Value} {k : Nat} (h : HEok P base ρ X W he v) (hk : OwnB ρ he v k) : (∃ cs t fr, W.heap[k]? = some (.cells cs t fr)) ∨ (memoOn = false ∧ ∃ es c, W.heap[k]? = some (.map es c)) := by
  cases he with
  | mp q K es =>
    rw [ownB_mp] at hk
    obtain ⟨hm, b, arr, c, rfl, _, hb, _⟩ := h
    simp only [ownBlk, Option.some.injEq] at hk
    subst hk
    exact .inr ⟨hm, _, _, hb⟩
  | box own ty cs =>
    rw [ownB_box] at hk
    obtain ⟨b, arr, rfl, hb, _⟩ := h
    cases own with
    | false => simp [ownBlk] at hk
    | true =>
      simp only [ownBlk, Option.some.injEq] at hk
      subst hk
      exact .inl ⟨_, _, _, hb⟩
  | row nn e K xs =>
    rw [ownB_row] at hk
    obtain ⟨_, ⟨flat, ⟨_, ho⟩, _⟩, _⟩ := h
    rcases ho with ⟨rfl, _⟩ | ⟨g, cap, cur, rfl, _, hg, _⟩
    · simp [ownBlk] at hk
    · simp only [ownBlk, Option.some.injEq] at hk
      subst hk
      exact .inl ⟨_, _, _, hg⟩
  | dat nn e K xs =>
    rw [ownB_dat] at hk
    cases v <;> simp [ownBlk] at hk
  | ln e K xs =>
    rw [ownB_ln] at hk
    obtain ⟨_, A, c, rfl, _, _, h⟩ := h
    cases xs with
    | nil => simp [ownBlk] at hk
    | cons x xs =>
      obtain ⟨ad, rfl, hc, _⟩ := h (by simp)
      simp only [ownBlk, Option.some.injEq] at hk
      subst hk
      exact .inl hc
  | mat nn e ag e1 K1 xs hole vl =>
    obtain ⟨⟨us, hu, m⟩, _⟩ := h
    rcases (mat_own hu).1 hk with hk | ⟨j, u, hh, hj, hk⟩
    · obtain ⟨hd, ho, _⟩ := m.out
      exact .inl (ownsRow_block ho hk)
    · have hlt : j < xs.length := by rw [← m.len]; exact (List.getElem?_eq_some_iff.1 hj).1
      obtain ⟨fl, ho, _⟩ := m.inr j u xs[j] hj (List.getElem?_eq_getElem hlt) hh
      exact .inl (ownsRow_block ho hk)
theorem HEok.noMap {base : Nat} {X : Nat → Prop} {he : HE} {v : Value} {k : Nat} (h : HEok P base ρ X W he v) (hk : OwnB ρ he v k) : NoMap W k := by
  rcases h.obj hk with h | ⟨h, _⟩
  · exact noMap_cells h
  · intro h'; rw [h] at h'; cases h'
theorem HEok.no {base : Nat} {X : Nat → Prop} {he : HE} {v : Value} {k : Nat} {o : Obj} (h : HEok P base ρ X W he v) (hk : OwnB ρ he v k) (ho : W.heap[k]? = some o) (h1 : ∀ cs t fr, o ≠ .cells cs t fr) (h2 : ∀ es c, o ≠ .map es c) : False := by
  rcases h.obj hk with ⟨cs, t, fr, h⟩ | ⟨_, es, c, h⟩
  · rw [ho] at h; cases h; exact h1 _ _ _ rfl
  · rw [ho] at h; cases h; exact h2 _ _ rfl

theorem HEok.lt {base : Nat} {X : Nat → Prop} {he : HE} {v : Value} {k : Nat} (h : HEok P base ρ X W he v) (hk : OwnB ρ he v k) : 0 ≤ k ∧ k < W.heap.size := by
  rcases h.obj hk with ⟨cs, t, fr, hc⟩ | ⟨_, es, c, hc⟩
  · exact ⟨Nat.zero_le _, (Array.getElem?_eq_some_iff.1 hc).1⟩
  · exact ⟨Nat.zero_le _, (Array.getElem?_eq_some_iff.1 hc).1⟩

theorem OwnB.back {base : Nat} {X : Nat → Prop} {he : HE} {v : Value} {k : Nat} (hok : HEok P base ρ X W he v) (hρ : ρ.le ρ') (h : OwnB ρ' he v k) : OwnB ρ he v k := by
  cases he with
  | mat nn e ag e1 K1 xs hole vl =>
    obtain ⟨⟨us, hu, _⟩, _⟩ := hok
    exact (mat_own hu).2 ((mat_own (hρ _ _ hu)).1 h)
  | box own ty cs => exact ownB_box.2 (ownB_box.1 h)
  | row nn e K xs => exact ownB_row.2 (ownB_row.1 h)
  | dat nn e K xs => exact ownB_dat.2 (ownB_dat.1 h)
  | ln e K xs => exact ownB_ln.2 (ownB_ln.1 h)
  | mp q K es => exact ownB_mp.2 (ownB_mp.1 h)

theorem MatOK.keep {e e1 : TypeId} {K1 : Kd} {xs : List (List K1.T)} {hole : Option Nat} {us : List Value} {v : Value} (m : MatOK P W e e1 K1 xs hole us v) (h0 : ∀ k, v.ownBlock = some k → W'.heap[k]? = W.heap[k]?)
    (h1 : ∀ (j : Nat) u k, us[j]? = some u → isHole hole j = false → u.ownBlock = some k → W'.heap[k]? = W.heap[k]?) : MatOK P W' e e1 K1 xs hole us v where
  flat := m.flat
  pos := m.pos
  len := m.len
  out := let ⟨hd, ho, h⟩ := m.out; ⟨hd, ownsRow_keep ho h0, h⟩
  inr := fun j u xr hj hx hh => let ⟨fl, ho, hc⟩ := m.inr j u xr hj hx hh; ⟨fl, ownsRow_keep ho (fun k hk => h1 j u k hj hh hk), fun i x hi => Kd.flat_cells P K1 m.flat (hc i x hi)⟩
  dis := m.dis
  apart := m.apart

theorem Mt.Xlt (m : Mt P glb Bk X0 w0 st ρ a W) : ∀ k, Xs st ρ X0 k → k < W.heap.size := by
  rintro k (h | ⟨l, he, s, v, h1, h2, h3⟩)
  · exact m.x0 k h
  · obtain ⟨v', hv', hok⟩ := m.hps l he s h1
    rw [h2] at hv'
    injection hv' with hv'
    subst hv'
    exact (hok.lt h3).2

theorem Mt.notMap (m : Mt P glb Bk X0 w0 st ρ a W) {l : Nat} {he : HE} {s : Nat} {v : Value} {k : Nat} (h1 : st.hp l = some (he, s)) (h2 : ρ l = some v) (h3 : OwnB ρ he v k) (hk : ∃ es c, W.heap[k]? = some (Obj.map es c)) (hm : memoOn = true) : False := by
  obtain ⟨v', hv', hok⟩ := m.hps l he s h1
  rw [h2] at hv'; cases hv'
  rcases hok.obj h3 with ⟨cs, t, fr, hc⟩ | ⟨h, _⟩
  · obtain ⟨es, c, h⟩ := hk
    rw [hc] at h; cases h
  · rw [h] at hm; cases hm

theorem Mt.glbX (m : Mt P glb Bk X0 w0 st ρ a W) : GlbOK P glb (Xs st ρ X0) W := m.glb

theorem Mt.evoGenM (m : Mt P glb Bk X0 w0 st ρ a W) (U : Nat → Prop) (hother : ∀ l, ¬ U l → st'.hp l = st.hp l) (hρ : ρ.le ρ') (hsz : W.heap.size ≤ W'.heap.size)
    (hkeep : ∀ k, k < W.heap.size → (∀ l he s v, U l → st.hp l = some (he, s) → ρ l = some v → ¬ OwnB ρ he v k) → NoMap W k → W'.heap[k]? = W.heap[k]?)
    (hmem : ∀ mm xs, PackAt (fun _ => False) W mm xs → GoodAt W mm xs → GoodAt W' mm xs)
    (hblk : ∀ l he s v k, U l → st'.hp l = some (he, s) → ρ' l = some v → OwnB ρ' he v k → k < W'.heap.size ∧ (W.heap.size ≤ k ∨ ∃ l' he' s' v', U l' ∧ st.hp l' = some (he', s') ∧ ρ l' = some v' ∧ OwnB ρ he' v' k)) :
    Evo (Xs st ρ X0) W (Xs st' ρ' X0) W' where
  size := hsz
  keep := fun k hk hx => hkeep k (let ⟨_, _, _, h⟩ := hk; (Array.getElem?_eq_some_iff.1 h).1) (fun l he s v hU h1 h2 h3 => hx (.inr ⟨l, he, s, v, h1, h2, h3⟩)) (noMap_cells hk)
  memo := fun mm xs hp hg => hmem mm xs (hp.mono fun _ _ _ h => h) hg
  back := by
    rintro k (h | ⟨l, he, s, v, h1, h2, h3⟩) hk
    · exact .inl h
    · by_cases hU : U l
      · rcases (hblk l he s v k hU h1 h2 h3).2 with h | ⟨l', he', s', v', _, g1, g2, g3⟩
        · omega
        · exact .inr ⟨l', he', s', v', g1, g2, g3⟩
      · rw [hother l hU] at h1
        obtain ⟨v', hv', hok⟩ := m.hps l he s h1
        have := hρ l v' hv'
        rw [h2] at this
        injection this with this
        subst this
        exact .inr ⟨l, he, s, v, h1, hv', h3.back hok hρ⟩
  low := by
    rintro k (h | ⟨l, he, s, v, h1, h2, h3⟩)
    · exact Nat.lt_of_lt_of_le (m.x0 k h) hsz
    · by_cases hU : U l
      · exact (hblk l he s v k hU h1 h2 h3).1
      · rw [hother l hU] at h1
        obtain ⟨v', hv', hok⟩ := m.hps l he s h1
        have := hρ l v' hv'
        rw [h2] at this
        injection this with this
        subst this
        exact Nat.lt_of_lt_of_le (hok.lt (h3.back hok hρ)).2 hsz

theorem Mt.memKeep (m : Mt P glb Bk X0 w0 st ρ a W) (U : Nat → Prop)
    (hkeep : ∀ k, k < W.heap.size → (∀ l he s v, U l → st.hp l = some (he, s) → ρ l = some v → ¬ OwnB ρ he v k) → W'.heap[k]? = W.heap[k]?) : ∀ mm xs, PackAt (fun _ => False) W mm xs → GoodAt W mm xs → GoodAt W' mm xs :=
  fun mm xs hp hg => GoodAt.keep hg fun k hk => hkeep k (let ⟨_, _, h⟩ := hk; (Array.getElem?_eq_some_iff.1 h).1) (fun l he s v hU h1 h2 h3 => m.notMap h1 h2 h3 hk hp.1.2.2)

theorem Mt.evoGen (m : Mt P glb Bk X0 w0 st ρ a W) (U : Nat → Prop) (hother : ∀ l, ¬ U l → st'.hp l = st.hp l) (hρ : ρ.le ρ') (hsz : W.heap.size ≤ W'.heap.size)
    (hkeep : ∀ k, k < W.heap.size → (∀ l he s v, U l → st.hp l = some (he, s) → ρ l = some v → ¬ OwnB ρ he v k) → W'.heap[k]? = W.heap[k]?)
    (hblk : ∀ l he s v k, U l → st'.hp l = some (he, s) → ρ' l = some v → OwnB ρ' he v k → k < W'.heap.size ∧ (W.heap.size ≤ k ∨ ∃ l' he' s' v', U l' ∧ st.hp l' = some (he', s') ∧ ρ l' = some v' ∧ OwnB ρ he' v' k)) :
    Evo (Xs st ρ X0) W (Xs st' ρ' X0) W' :=
  m.evoGenM U hother hρ hsz (fun k h1 h2 _ => hkeep k h1 h2) (m.memKeep U hkeep) hblk

theorem HEok.mono {base : Nat} {X X' : Nat → Prop} (hρ : ρ.le ρ') (e : Evo X W X' W') {he : HE} {v : Value} (hb : ∀ k, OwnB ρ he v k → W'.heap[k]? = W.heap[k]?) (h : HEok P base ρ X W he v) : HEok P base ρ' X' W' he v := by
  cases he with
  | box own ty cs =>
    obtain ⟨b, arr, rfl, h1, h2, h3, h4⟩ := h
    have hlt := (Array.getElem?_eq_some_iff.1 h1).1
    refine ⟨b, arr, rfl, ?_, h2.mono hρ e, fun ho => e.notIn (h3 ho) hlt, h4⟩
    cases own with
    | true => rw [hb b (.inl rfl)]; exact h1
    | false => rw [e.keep b ⟨_, _, _, h1⟩ (h3 rfl)]; exact h1
  | row nn et K xs =>
    obtain ⟨h0, ⟨flat, ho, hc⟩, hnn⟩ := h
    refine ⟨h0, ⟨flat, ?_, fun j x hj => (Kd.stands P K).cells e (hc j x hj)⟩, hnn⟩
    obtain ⟨g1, g2⟩ := ho
    refine ⟨g1, ?_⟩
    rcases g2 with g2 | ⟨g, cap, cur, rfl, k1, k2, k3⟩
    · exact .inl g2
    · exact .inr ⟨g, cap, cur, rfl, k1, by rw [hb g (.inl rfl)]; exact k2, k3⟩
  | dat nn et K xs => exact ⟨(Kd.stands P (.sl et K)).val e h.1, h.2⟩
  | ln et K xs =>
    obtain ⟨hf, A, c, rfl, h1, h2, h3⟩ := h
    refine ⟨hf, A, c, rfl, h1, h2, fun hne => ?_⟩
    cases xs with
    | nil => exact absurd rfl hne
    | cons x xs =>
      obtain ⟨ad, rfl, ⟨cs, t, fr, hc⟩, hg⟩ := h3 (by simp)
      have hbl := hb ad.block (.inl rfl)
      refine ⟨ad, rfl, ⟨cs, t, fr, hbl.trans hc⟩, fun j y hy => ?_⟩
      obtain ⟨ecs, k1, k2⟩ := hg j y hy
      exact ⟨ecs, Kd.flat_cells P K hf k1, fun i u hu => (World.cell?_of_block (by rw [add_block]; exact hbl)).trans (k2 i u hu)⟩
  | mp q K es =>
    obtain ⟨hm, b, arr, c, rfl, h0, h1, hnd, h2, h3⟩ := h
    exact ⟨hm, b, arr, c, rfl, h0, (hb b (.inl rfl)).trans h1, hnd, h2, fun j en p hj hp => ⟨(h3 j en p hj hp).1, (Kd.stands P K).val e (h3 j en p hj hp).2⟩⟩
  | mat nn et ag e1 K1 xs hole vl =>
    obtain ⟨⟨us, hu, m⟩, hnn⟩ := h
    exact ⟨⟨us, hρ _ _ hu, m.keep (fun k hk => hb k ((mat_own hu).2 (.inl hk))) (fun j u k hj hh hk => hb k ((mat_own hu).2 (.inr ⟨j, u, hh, hj, hk⟩)))⟩, hnn⟩

theorem Mt.genM (m : Mt P glb Bk X0 w0 st ρ a W) (U : Nat → Prop) (hnl : ∀ l he s, U l → st.hp l = some (he, s) → he.isLn = false) (htm : st'.tm = st.tm) (hn : st'.n = st.n) (hother : ∀ l, ¬ U l → st'.hp l = st.hp l) (hρ : ρ.le ρ')
    (hdom : ∀ l v, ρ' l = some v → memL l st'.dom = true) (hstamp : ∀ l he s, st'.hp l = some (he, s) → s ≤ st'.cnt)
    (hos : W'.os = W.os) (htape : W'.tape = W.tape) (hout : W'.output = W.output) (hsz : W.heap.size ≤ W'.heap.size)
    (hkeep : ∀ k, k < W.heap.size → (∀ l he s v, U l → st.hp l = some (he, s) → ρ l = some v → ¬ OwnB ρ he v k) → NoMap W k → W'.heap[k]? = W.heap[k]?)
    (hmem : ∀ mm xs, PackAt (fun _ => False) W mm xs → GoodAt W mm xs → GoodAt W' mm xs)
    (hblk : ∀ l he s v k, U l → st'.hp l = some (he, s) → ρ' l = some v → OwnB ρ' he v k → k < W'.heap.size ∧ (W.heap.size ≤ k ∨ ∃ l' he' s' v', U l' ∧ st.hp l' = some (he', s') ∧ ρ l' = some v' ∧ OwnB ρ he' v' k))
    (hnew : Evo (Xs st ρ X0) W (Xs st' ρ' X0) W' → ∀ l he s, U l → st'.hp l = some (he, s) → ∃ v, ρ' l = some v ∧ HEok P 0 ρ' (Xs st' ρ' X0) W' he v)
    (hdis : ∀ l l' he he' s s' v v' k, U l → U l' → st'.hp l = some (he, s) → st'.hp l' = some (he', s') → ρ' l = some v → ρ' l' = some v' → OwnB ρ' he v k → OwnB ρ' he' v' k → l = l') :
    Mt P glb Bk X0 w0 st' ρ' a W' := by
  have e := m.evoGenM U hother hρ hsz hkeep hmem hblk
  have old : ∀ l he s v k, ¬ U l → st'.hp l = some (he, s) → ρ' l = some v → OwnB ρ' he v k → st.hp l = some (he, s) ∧ ρ l = some v ∧ OwnB ρ he v k := by
    intro l he s v k hU h1 h2 h3
    rw [hother l hU] at h1
    obtain ⟨v', hv', hok⟩ := m.hps l he s h1
    have := hρ l v' hv'
    rw [h2] at this
    injection this with this
    subst this
    exact ⟨h1, hv', h3.back hok hρ⟩
  refine ⟨by rw [hn]; exact m.size, m.dfr.keep (fun D hD => hkeep D (Array.getElem?_eq_some_iff.1 hD).1 (fun l he s v _ g1 g2 g3 => ?_) (fun _ es c h => (by rw [hD] at h; cases h))), fun t => by rw [htm]; exact (m.tms t).mono hρ e, ?_, ?_, fun k hk => Nat.lt_of_lt_of_le (m.x0 k hk) hsz, m.bk, ?_, ?_, m.glb.evo e, hdom, hstamp⟩
  · obtain ⟨v2, hv2, hok⟩ := m.hps l he s g1
    rw [g2] at hv2; injection hv2 with hv2; subst hv2
    exact hok.no g3 hD (fun _ _ _ h => by cases h) (fun _ _ h => by cases h)
  · intro l he s h1
    by_cases hU : U l
    · exact hnew e l he s hU h1
    · rw [hother l hU] at h1
      obtain ⟨v, hv, hok⟩ := m.hps l he s h1
      refine ⟨v, hρ l v hv, hok.mono hρ e (fun k hk => hkeep k (hok.lt hk).2 ?_ (hok.noMap hk))⟩
      intro l' he' s' v' hU' g1 g2 g3
      exact hU ((m.dis l l' he he' s s' v v' k h1 g1 hv g2 hk g3) ▸ hU')
  · intro l l' he he' s s' v v' k h1 h1' h2 h2' h3 h3'
    by_cases hU : U l <;> by_cases hU' : U l'
    · exact hdis l l' he he' s s' v v' k hU hU' h1 h1' h2 h2' h3 h3'
    · obtain ⟨g1, g2, h3'⟩ := old l' he' s' v' k hU' h1' h2' h3'
      have hlt : k < W.heap.size := by
        obtain ⟨v2, hv2, hok⟩ := m.hps l' he' s' g1
        rw [g2] at hv2; injection hv2 with hv2; subst hv2
        exact (hok.lt h3').2
      rcases (hblk l he s v k hU h1 h2 h3).2 with h | ⟨l2, he2, s2, v2, hU2, k1, k2, k3⟩
      · omega
      · exact absurd ((m.dis l' l2 he' he2 s' s2 v' v2 k g1 k1 g2 k2 h3' k3) ▸ hU2) hU'
    · obtain ⟨g1, g2, h3⟩ := old l he s v k hU h1 h2 h3
      have hlt : k < W.heap.size := by
        obtain ⟨v2, hv2, hok⟩ := m.hps l he s g1
        rw [g2] at hv2; injection hv2 with hv2; subst hv2
        exact (hok.lt h3).2
      rcases (hblk l' he' s' v' k hU' h1' h2' h3').2 with h | ⟨l2, he2, s2, v2, hU2, k1, k2, k3⟩
      · omega
      · exact absurd ((m.dis l l2 he he2 s s2 v v2 k g1 k1 g2 k2 h3 k3) ▸ hU2) hU
    · obtain ⟨g1, g2, h3⟩ := old l he s v k hU h1 h2 h3
      obtain ⟨g1', g2', h3'⟩ := old l' he' s' v' k hU' h1' h2' h3'
      exact m.dis l l' he he' s s' v v' k g1 g1' g2 g2' h3 h3'
  · refine m.bel.trans ⟨hos, htape, hout, hsz, fun k hk hn => hkeep k (Nat.lt_of_lt_of_le (m.bk k hk) m.bel.size) ?_ hn, fun mm xs hp hg => hmem mm xs (hp.mono fun _ _ _ h => h) hg⟩
    intro l he s v hU g1 g2 g3
    exact (m.nb l he s v k g1 g2 g3).1 (hnl l he s hU g1) hk
  · intro l he s v k h1 h2 h3
    by_cases hU : U l
    · rcases (hblk l he s v k hU h1 h2 h3).2 with h | ⟨l', he', s', v', hU', g1, g2, g3⟩
      · refine ⟨fun _ hB => ?_, fun hX => ?_⟩
        · have := Nat.lt_of_lt_of_le (m.bk k hB) m.bel.size
          omega
        · have := m.x0 k hX
          omega
      · have := m.nb l' he' s' v' k g1 g2 g3
        exact ⟨fun _ => this.1 (hnl l' he' s' (by assumption) g1), this.2⟩
    · obtain ⟨g1, g2, h3⟩ := old l he s v k hU h1 h2 h3
      exact m.nb l he s v k g1 g2 h3

theorem Mt.gen (m : Mt P glb Bk X0 w0 st ρ a W) (U : Nat → Prop) (hnl : ∀ l he s, U l → st.hp l = some (he, s) → he.isLn = false) (htm : st'.tm = st.tm) (hn : st'.n = st.n) (hother : ∀ l, ¬ U l → st'.hp l = st.hp l) (hρ : ρ.le ρ')
    (hdom : ∀ l v, ρ' l = some v → memL l st'.dom = true) (hstamp : ∀ l he s, st'.hp l = some (he, s) → s ≤ st'.cnt)
    (hos : W'.os = W.os) (htape : W'.tape = W.tape) (hout : W'.output = W.output) (hsz : W.heap.size ≤ W'.heap.size)
    (hkeep : ∀ k, k < W.heap.size → (∀ l he s v, U l → st.hp l = some (he, s) → ρ l = some v → ¬ OwnB ρ he v k) → W'.heap[k]? = W.heap[k]?)
    (hblk : ∀ l he s v k, U l → st'.hp l = some (he, s) → ρ' l = some v → OwnB ρ' he v k → k < W'.heap.size ∧ (W.heap.size ≤ k ∨ ∃ l' he' s' v', U l' ∧ st.hp l' = some (he', s') ∧ ρ l' = some v' ∧ OwnB ρ he' v' k))
    (hnew : Evo (Xs st ρ X0) W (Xs st' ρ' X0) W' → ∀ l he s, U l → st'.hp l = some (he, s) → ∃ v, ρ' l = some v ∧ HEok P 0 ρ' (Xs st' ρ' X0) W' he v)
    (hdis : ∀ l l' he he' s s' v v' k, U l → U l' → st'.hp l = some (he, s) → st'.hp l' = some (he', s') → ρ' l = some v → ρ' l' = some v' → OwnB ρ' he v k → OwnB ρ' he' v' k → l = l') :
    Mt P glb Bk X0 w0 st' ρ' a W' :=
  m.genM U hnl htm hn hother hρ hdom hstamp hos htape hout hsz (fun k h1 h2 _ => hkeep k h1 h2) (m.memKeep U hkeep) hblk hnew hdis

theorem Mt.evoBelow (m : Mt P glb Bk X0 w0 st ρ a W) (hb : Below W.heap.size W W') : Evo (Xs st ρ X0) W (Xs st ρ X0) W' := Evo.below m.Xlt hb
theorem Mt.evoM (m : Mt P glb Bk X0 w0 st ρ a W) (hb : BelM W W') : Evo (Xs st ρ X0) W (Xs st ρ X0) W' := hb.evoM m.Xlt

theorem Mt.belM (m : Mt P glb Bk X0 w0 st ρ a W) (hb : BelM W W') : Mt P glb Bk X0 w0 st ρ a W' := by
  have ev := m.evoM hb
  refine ⟨m.size, m.dfr.keep (fun D hD => hb.block D (Array.getElem?_eq_some_iff.1 hD).1 fun _ es c h => (by rw [hD] at h; cases h)), fun t => (m.tms t).mono ρ.le_refl ev, fun l he s hl => ?_, m.dis, fun k h => Nat.lt_of_lt_of_le (m.x0 k h) hb.size, m.bk, ?_, m.nb, m.glb.evo ev, m.dom, m.stamp⟩
  · obtain ⟨u, hu, hok⟩ := m.hps l he s hl
    exact ⟨u, hu, hok.mono ρ.le_refl ev (fun k hk => hb.block k (hok.lt hk).2 (hok.noMap hk))⟩
  · exact m.bel.trans (hb.mono fun k hk => Nat.lt_of_lt_of_le (m.bk k hk) m.bel.size)

theorem Mt.below (m : Mt P glb Bk X0 w0 st ρ a W) (hb : Below W.heap.size W W') : Mt P glb Bk X0 w0 st ρ a W' := m.belM (.ofBelow hb)

theorem Mt.put (m : Mt P glb Bk X0 w0 st ρ a W) (dst : Option Nat) (sv : SV) (v : Value) (hd : dstOK st.n dst = true) (hv : RepV P ρ (Xs st ρ X0) W sv v) : Mt P glb Bk X0 w0 (st.put dst sv) ρ (a.put dst v) W := by
  cases dst with
  | none => exact m
  | some d =>
    have hlt : d < a.tmps.size := by rw [m.size]; simpa [dstOK, Nat.blt_eq] using hd
    refine ⟨by simp [St.put, Act.put, m.size], (by simpa [Act.put] using m.dfr), fun t => ?_, m.hps, m.dis, m.x0, m.bk, m.bel, m.nb, m.glb, m.dom, m.stamp⟩
    show RepV P ρ (Xs st ρ X0) W (updf st.tm d sv t) ((a.tmps.setIfInBounds d v).getD t undef)
    unfold updf
    by_cases h : t = d
    · subst h
      simp only [Nat.beq_refl, cond_true]
      have : (a.tmps.setIfInBounds t v).getD t undef = v := by simp [Array.getD_eq_getD_getElem?, hlt]
      rw [this]
      exact hv
    · have hb : Nat.beq t d = false := by
        cases hq : Nat.beq t d with
        | false => rfl
        | true => exact absurd (Nat.eq_of_beq_eq_true hq) h
      rw [hb, cond_false]
      have : (a.tmps.setIfInBounds d v).getD t undef = a.tmps.getD t undef := by simp [Array.getD_eq_getD_getElem?, Ne.symm h]
      rw [this]
      exact m.tms t
end
end Go.GX
