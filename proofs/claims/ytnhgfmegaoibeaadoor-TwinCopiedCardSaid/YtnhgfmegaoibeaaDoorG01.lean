/- Part 1 of the texts behind the proof: Gx1, Gx2, Gx3, TwS, TwC1, TwV1, TwB, Gx4. -/
import Derived.Below
import Derived.Carry
import Derived.Shelf.Abstract
import Derived.Laws.OwnMore
import Derived.Laws.NewBlocks
import Derived.CallsIn
import Derived.RangeFuncStops
import Derived.Test.YtnhgfmegaoibeaaDoorProg
set_option linter.unusedSimpArgs false
set_option linter.unusedVariables false
set_option linter.unusedVariables false
namespace Go.GX
open Go.RowKit Go.Shelf Go.Proofs

inductive Kd where
  | int (k : IntKind)
  | bool
  | str
  | sl (e : TypeId) (K : Kd)
  | nsl (e : TypeId) (K : Kd)
  | pair (A B : Kd)
  | unit
  | agg (K : Kd)
  | fn (A R : Kd)
  | ptr (ty : TypeId) (K : Kd)
  | seq (A : Kd)
  deriving DecidableEq

def Kd.T : Kd → Type
  | .int _ => Int
  | .bool => Bool
  | .str => ByteArray
  | .sl _ K => List K.T
  | .nsl _ K => Option (List K.T)
  | .pair A B => A.T × B.T
  | .unit => Unit
  | .agg K => K.T
  | .fn A R => A.T → (R.T → Prop) → Prop
  | .ptr _ K => K.T
  | .seq A => List A.T

def Kd.dflt : (K : Kd) → K.T
  | .int _ => (0 : Int)
  | .bool => false
  | .str => ByteArray.empty
  | .sl _ _ => []
  | .nsl _ _ => none
  | .pair A B => (A.dflt, B.dflt)
  | .unit => ()
  | .agg K => K.dflt
  | .fn _ _ => fun _ _ => False
  | .ptr _ K => K.dflt
  | .seq _ => []

def Kd.n : Kd → Nat
  | .pair A B => A.n + B.n
  | .unit => 0
  | .agg K => K.n
  | _ => 1

def Kd.flat : Kd → Bool
  | .int _ | .bool | .str | .unit => true
  | .pair A B => A.flat && B.flat
  | .agg K => K.flat
  | _ => false

structure Evo (X : Nat → Prop) (W : World) (X' : Nat → Prop) (W' : World) : Prop where
  size : W.heap.size ≤ W'.heap.size
  keep : ∀ k, (∃ cs t fr, W.heap[k]? = some (.cells cs t fr)) → ¬ X k → W'.heap[k]? = W.heap[k]?
  back : ∀ k, X' k → k < W.heap.size → X k
  low : ∀ k, X' k → k < W'.heap.size

theorem Evo.refl {X : Nat → Prop} {W : World} (h : ∀ k, X k → k < W.heap.size) : Evo X W X W := ⟨Nat.le_refl _, fun _ _ _ => rfl, fun _ h _ => h, h⟩

theorem Evo.trans {X X1 X2 : Nat → Prop} {W W1 W2 : World} (h : Evo X W X1 W1) (h' : Evo X1 W1 X2 W2) : Evo X W X2 W2 where
  size := Nat.le_trans h.size h'.size
  keep := fun k hk hx => by
    have h1 := h.keep k hk hx
    obtain ⟨cs, t, fr, hc⟩ := hk
    have hlt := (Array.getElem?_eq_some_iff.1 hc).1
    exact (h'.keep k ⟨cs, t, fr, h1.trans hc⟩ (fun hx1 => hx (h.back k hx1 hlt))).trans h1
  back := fun k hx2 hk => h.back k (h'.back k hx2 (Nat.lt_of_lt_of_le hk h.size)) hk
  low := h'.low

theorem cells_of_cell? {W : World} {a : Addr} {v : Value} (hc : W.cell? a = some v) : ∃ cs t fr, W.heap[a.block]? = some (.cells cs t fr) := by
  unfold World.cell? at hc
  split at hc
  · rename_i h; exact ⟨_, _, _, h⟩
  · cases hc

theorem Evo.cell {X X' : Nat → Prop} {W W' : World} (h : Evo X W X' W') {a : Addr} {v : Value} (hx : ¬ X a.block) (hc : W.cell? a = some v) : W'.cell? a = some v :=
  (World.cell?_of_block (h.keep a.block (cells_of_cell? hc) hx)).trans hc

theorem Evo.notIn {X X' : Nat → Prop} {W W' : World} (h : Evo X W X' W') {k : Nat} (hx : ¬ X k) (hk : k < W.heap.size) : ¬ X' k := fun hx' => hx (h.back k hx' hk)

theorem Evo.below {X : Nat → Prop} {W W' : World} (hX : ∀ k, X k → k < W.heap.size) (hb : Below W.heap.size W W') : Evo X W X W' :=
  ⟨hb.size, fun k hk _ => hb.block k (let ⟨_, _, _, h⟩ := hk; (Array.getElem?_eq_some_iff.1 h).1), fun _ h _ => h, fun k hk => Nat.lt_of_lt_of_le (hX k hk) hb.size⟩

theorem Evo.mono {X X' : Nat → Prop} {W : World} (hX : ∀ k, X' k → k < W.heap.size) (h : ∀ k, X' k → X k) : Evo X W X' W :=
  ⟨Nat.le_refl _, fun _ _ _ => rfl, fun k hk _ => h k hk, hX⟩

def CallsV (P : Program) (v : Value) (vs : List Value) (W : World) (R : Ending → World → Prop) : Prop :=
  ∃ f fi cap, v = .func (.func f) fi cap ∧ Enters P f ∧ Calls P f (fi ++ vs.toArray ++ cap) W R

theorem CallsV.mono {P : Program} {v : Value} {vs : List Value} {W : World} {R R' : Ending → World → Prop} (h : CallsV P v vs W R) (hr : ∀ e w', R e w' → R' e w') : CallsV P v vs W R' :=
  let ⟨f, fi, cap, a, b, c⟩ := h; ⟨f, fi, cap, a, b, c.mono hr⟩

structure Turned (I : Nat → Prop) (W : World) (I' : Nat → Prop) (W' : World) : Prop where
  os : W'.os = W.os
  tape : W'.tape = W.tape
  output : W'.output = W.output
  size : W.heap.size ≤ W'.heap.size
  keep : ∀ k, k < W.heap.size → ¬ I k → W'.heap[k]? = W.heap[k]?
  more : ∀ k, I k → I' k
  new : ∀ k, I' k → I k ∨ (W.heap.size ≤ k ∧ k < W'.heap.size)

structure Kept (X : Nat → Prop) (W0 : World) (I : Nat → Prop) (W W' : World) : Prop where
  os : W'.os = W.os
  tape : W'.tape = W.tape
  output : W'.output = W.output
  size : W.heap.size ≤ W'.heap.size
  own : ∀ k, I k → W'.heap[k]? = W.heap[k]?
  old : ∀ k, (∃ cs t fr, W.heap[k]? = some (.cells cs t fr)) → k < W0.heap.size → ¬ X k → W'.heap[k]? = W.heap[k]?

def SeqRun {α : Type} (P : Program) (vals : (Nat → Prop) → World → α → List Value → Prop) (X : Nat → Prop) (W0 : World) (xs : List α) (v : Value) : Prop :=
  ∃ f fi cap, v = .func (.func f) fi cap ∧ Enters P f ∧ ∀ (n l : Nat) (J : List α → (Nat → Prop) → World → Prop) (Jx : (Nat → Prop) → World → Prop),
    (∀ pre I W I' W', J pre I W → Turned I W I' W' → J pre I' W') → (∀ I W I' W', Jx I W → Turned I W I' W' → Jx I' W') →
    (∀ pre x rest I W vs, xs = pre ++ x :: rest → J pre I W → (∀ k, I k → W0.heap.size ≤ k ∧ k < W.heap.size) → W0.heap.size ≤ W.heap.size → vals (fun k => ¬ I k) W x vs →
      YieldAt Fence.wide n P l vs.toArray W fun e W' => (e = .returned (.bool true) ∧ J (pre ++ [x]) I W' ∧ Kept X W0 I W W') ∨ (e = .returned (.bool false) ∧ Jx I W' ∧ Kept X W0 I W W')) →
    J [] (fun _ => False) W0 →
    CallsIn Fence.wide n P f (fi ++ #[.func (.yield l) #[] #[]] ++ cap) W0 fun e W' => (∃ u, e = .returned u) ∧ ∃ I, J xs I W' ∨ Jx I W'

structure Sem3 (α : Type) where
  cells : (Nat → Prop) → World → α → List Value → Prop
  val : (Nat → Prop) → World → α → Value → Prop
  vals : (Nat → Prop) → World → α → List Value → Prop
  ret : (Nat → Prop) → World → α → Value → Prop

def Sem3.one {α : Type} (r : (Nat → Prop) → World → α → Value → Prop) : Sem3 α :=
  ⟨fun X W x cs => ∃ v, cs = [v] ∧ v.oneCell' = true ∧ r X W x v, r, fun X W x vs => ∃ v, vs = [v] ∧ r X W x v, r⟩

def Post {α : Type} (s : Sem3 α) (X : Nat → Prop) (w : World) (Q : α → Prop) : Ending → World → Prop :=
  fun e w' => ∃ r v, e = .returned v ∧ s.ret X w' r v ∧ Below w.heap.size w w' ∧ Q r

def Kd.sem (P : Program) : (K : Kd) → Sem3 K.T
  | .int k => .one fun _ _ x v => v = .int k x
  | .bool => .one fun _ _ x v => v = .bool x
  | .str => .one fun _ _ x v => v = .string x
  | .sl _ K => .one fun X W (xs : List K.T) v => ∃ A c, v = .slice A xs.length c ∧ xs.length ≤ c ∧ c ≤ maxLen ∧ (xs ≠ [] → ∃ ad, A = some ad ∧ ¬ X ad.block ∧ ad.block < W.heap.size ∧
      ∀ (j : Nat) x, xs[j]? = some x → ∃ ecs : List Value, (K.sem P).cells X W x ecs ∧ ∀ (i : Nat) u, ecs[i]? = some u → W.cell? (ad.add (j * K.n + i)) = some u)
  | .nsl _ K => .one fun X W (xo : Option (List K.T)) v => (xo = none → v = .slice none 0 0) ∧ ∀ xs, xo = some xs → ∃ A c, v = .slice A xs.length c ∧ A ≠ none ∧ xs.length ≤ c ∧ c ≤ maxLen ∧ (xs ≠ [] → ∃ ad, A = some ad ∧ ¬ X ad.block ∧ ad.block < W.heap.size ∧
      ∀ (j : Nat) x, xs[j]? = some x → ∃ ecs : List Value, (K.sem P).cells X W x ecs ∧ ∀ (i : Nat) u, ecs[i]? = some u → W.cell? (ad.add (j * K.n + i)) = some u)
  | .pair A B => ⟨fun X W x cs => ∃ c1 c2, cs = c1 ++ c2 ∧ (A.sem P).cells X W x.1 c1 ∧ (B.sem P).cells X W x.2 c2, fun _ _ _ _ => False,
      fun X W x vs => ∃ v vs', vs = v :: vs' ∧ (A.sem P).val X W x.1 v ∧ (B.sem P).vals X W x.2 vs',
      fun X W x v => ∃ v1 vs', v = .tuple (v1 :: vs').toArray ∧ (A.sem P).val X W x.1 v1 ∧ (B.sem P).vals X W x.2 vs'⟩
  | .unit => ⟨fun _ _ _ cs => cs = [], fun _ _ _ _ => False, fun _ _ _ vs => vs = [], fun _ _ _ v => v = .tuple #[]⟩
  | .agg K => ⟨(K.sem P).cells, fun X W x v => ∃ cs : List Value, v = .agg cs.toArray ∧ (K.sem P).cells X W x cs, fun X W x vs => ∃ cs : List Value, vs = [.agg cs.toArray] ∧ (K.sem P).cells X W x cs, fun X W x v => ∃ cs : List Value, v = .agg cs.toArray ∧ (K.sem P).cells X W x cs⟩
  | .fn A R => .one fun X W g v => (∃ f fi cap, v = .func f fi cap) ∧ ∀ X' W', Evo X W X' W' → ∀ x vs, (A.sem P).vals X' W' x vs → ∀ Q, g x Q → CallsV P v vs W' (Post (R.sem P) X' W' Q)
  | .seq A => .one fun X W (xs : List A.T) v => (∃ f fi cap, v = .func f fi cap) ∧ ∀ X' W', Evo X W X' W' → SeqRun P (A.sem P).vals X' W' xs v
  | .ptr ty K => .one fun X W x v => ∃ b cs, v = .pointer (some ⟨b, 0, none⟩) ∧ ¬ X b ∧ W.heap[b]? = some (.cells cs ty (0, 0)) ∧ (K.sem P).cells X W x cs.toList

structure Stands {α : Type} (s : Sem3 α) : Prop where
  cells : ∀ {X X' W W'} {x : α} {cs}, Evo X W X' W' → s.cells X W x cs → s.cells X' W' x cs
  val : ∀ {X X' W W'} {x : α} {v}, Evo X W X' W' → s.val X W x v → s.val X' W' x v
  vals : ∀ {X X' W W'} {x : α} {vs}, Evo X W X' W' → s.vals X W x vs → s.vals X' W' x vs
  ret : ∀ {X X' W W'} {x : α} {v}, Evo X W X' W' → s.ret X W x v → s.ret X' W' x v

theorem Stands.one {α : Type} {r : (Nat → Prop) → World → α → Value → Prop} (h : ∀ {X X' W W'} {x : α} {v}, Evo X W X' W' → r X W x v → r X' W' x v) : Stands (Sem3.one r) where
  cells := fun e ⟨v, hv, h1, hr⟩ => ⟨v, hv, h1, h e hr⟩
  val := fun e hr => h e hr
  vals := fun e ⟨v, hv, hr⟩ => ⟨v, hv, h e hr⟩
  ret := fun e hr => h e hr

theorem Evo.ad {X X' : Nat → Prop} {W W' : World} (e : Evo X W X' W') {b : Nat} (hx : ¬ X b) {o : Nat} {s : Option Nat} {u : Value} (h : W.cell? ⟨b, o, s⟩ = some u) : ¬ X' b :=
  e.notIn hx (World.block_lt_of_cell? W _ h)

theorem add_block (a : Addr) (n : Nat) : (a.add n).block = a.block := by unfold Addr.add; split <;> rfl

theorem Evo.row {X X' : Nat → Prop} {W W' : World} (e : Evo X W X' W') {ad : Addr} (hx : ¬ X ad.block) {p : Nat} {u : Value} (h : W.cell? (ad.add p) = some u) : ¬ X' ad.block ∧ W'.cell? (ad.add p) = some u :=
  ⟨by have := World.block_lt_of_cell? W _ h; rw [add_block] at this; exact e.notIn hx this, e.cell (by rw [add_block]; exact hx) h⟩

theorem Kd.cells_length (P : Program) : ∀ (K : Kd) {X W x cs}, (K.sem P).cells X W x cs → cs.length = K.n
  | .int k, _, _, _, _, ⟨_, h, _⟩ => by rw [h]; rfl
  | .bool, _, _, _, _, ⟨_, h, _⟩ => by rw [h]; rfl
  | .str, _, _, _, _, ⟨_, h, _⟩ => by rw [h]; rfl
  | .sl _ _, _, _, _, _, ⟨_, h, _⟩ => by rw [h]; rfl
  | .nsl _ _, _, _, _, _, ⟨_, h, _⟩ => by rw [h]; rfl
  | .pair A B, _, _, _, _, ⟨c1, c2, h, h1, h2⟩ => by rw [h, List.length_append, Kd.cells_length P A h1, Kd.cells_length P B h2]; rfl
  | .unit, _, _, _, _, h => by simp only [Kd.sem] at h; rw [h]; rfl
  | .agg K, _, _, _, _, h => Kd.cells_length P K h
  | .fn _ _, _, _, _, _, ⟨_, h, _⟩ => by rw [h]; rfl
  | .ptr _ _, _, _, _, _, ⟨_, h, _⟩ => by rw [h]; rfl
  | .seq _, _, _, _, _, ⟨_, h, _⟩ => by rw [h]; rfl

theorem Kd.cells_one (P : Program) : ∀ (K : Kd) {X W x cs}, (K.sem P).cells X W x cs → ∀ u ∈ cs, u.oneCell' = true
  | .int k, _, _, _, _, ⟨_, h, h1, _⟩ => by rw [h]; simpa using h1
  | .bool, _, _, _, _, ⟨_, h, h1, _⟩ => by rw [h]; simpa using h1
  | .str, _, _, _, _, ⟨_, h, h1, _⟩ => by rw [h]; simpa using h1
  | .sl _ _, _, _, _, _, ⟨_, h, h1, _⟩ => by rw [h]; simpa using h1
  | .nsl _ _, _, _, _, _, ⟨_, h, h1, _⟩ => by rw [h]; simpa using h1
  | .pair A B, _, _, _, _, ⟨c1, c2, h, h1, h2⟩ => by
      intro u hu
      rw [h, List.mem_append] at hu
      rcases hu with hu | hu
      · exact Kd.cells_one P A h1 u hu
      · exact Kd.cells_one P B h2 u hu
  | .unit, _, _, _, _, h => by simp only [Kd.sem] at h; rw [h]; simp
  | .agg K, _, _, _, _, h => Kd.cells_one P K h
  | .fn _ _, _, _, _, _, ⟨_, h, h1, _⟩ => by rw [h]; simpa using h1
  | .ptr _ _, _, _, _, _, ⟨_, h, h1, _⟩ => by rw [h]; simpa using h1
  | .seq _, _, _, _, _, ⟨_, h, h1, _⟩ => by rw [h]; simpa using h1

def RowAt (P : Program) (K : Kd) (X : Nat → Prop) (W : World) (A : Option Addr) (xs : List K.T) : Prop :=
  xs ≠ [] → ∃ ad, A = some ad ∧ ¬ X ad.block ∧ ad.block < W.heap.size ∧ ∀ (j : Nat) x, xs[j]? = some x → ∃ ecs : List Value, (K.sem P).cells X W x ecs ∧ ∀ (i : Nat) u, ecs[i]? = some u → W.cell? (ad.add (j * K.n + i)) = some u

theorem RowAt.stands {P : Program} {K : Kd} (ih : Stands (K.sem P)) {X X' : Nat → Prop} {W W' : World} (e : Evo X W X' W') {A : Option Addr} {xs : List K.T} (h : RowAt P K X W A xs) : RowAt P K X' W' A xs := by
  intro hne
  obtain ⟨ad, hA, hx, hl, hc⟩ := h hne
  refine ⟨ad, hA, e.notIn hx hl, Nat.lt_of_lt_of_le hl e.size, fun j x hj => ?_⟩
  obtain ⟨ecs, h1, h2⟩ := hc j x hj
  exact ⟨ecs, ih.cells e h1, fun i u hu => (e.row hx (h2 i u hu)).2⟩

theorem Kd.stands (P : Program) : ∀ (K : Kd), Stands (K.sem P)
  | .int k => .one fun _ h => h
  | .bool => .one fun _ h => h
  | .str => .one fun _ h => h
  | .sl _ K => .one fun e ⟨A, c, h1, h2, h3, h4⟩ => ⟨A, c, h1, h2, h3, RowAt.stands (Kd.stands P K) e h4⟩
  | .nsl _ K => .one fun e ⟨h0, h⟩ => ⟨h0, fun xs hx => let ⟨A, c, h1, ha, h2, h3, h4⟩ := h xs hx; ⟨A, c, h1, ha, h2, h3, RowAt.stands (Kd.stands P K) e h4⟩⟩
  | .pair A B => {
      cells := fun e ⟨c1, c2, h, h1, h2⟩ => ⟨c1, c2, h, (Kd.stands P A).cells e h1, (Kd.stands P B).cells e h2⟩
      val := fun _ h => h
      vals := fun e ⟨v, vs, h, h1, h2⟩ => ⟨v, vs, h, (Kd.stands P A).val e h1, (Kd.stands P B).vals e h2⟩
      ret := fun e ⟨v, vs, h, h1, h2⟩ => ⟨v, vs, h, (Kd.stands P A).val e h1, (Kd.stands P B).vals e h2⟩ }
  | .unit => ⟨fun _ h => h, fun _ h => h, fun _ h => h, fun _ h => h⟩
  | .agg K => {
      cells := fun e h => (Kd.stands P K).cells e h
      val := fun e ⟨cs, h, h1⟩ => ⟨cs, h, (Kd.stands P K).cells e h1⟩
      vals := fun e ⟨cs, h, h1⟩ => ⟨cs, h, (Kd.stands P K).cells e h1⟩
      ret := fun e ⟨cs, h, h1⟩ => ⟨cs, h, (Kd.stands P K).cells e h1⟩ }
  | .fn A R => .one fun e ⟨h0, h⟩ => ⟨h0, fun X2 W2 e2 => h X2 W2 (e.trans e2)⟩
  | .seq A => .one fun e ⟨h0, h⟩ => ⟨h0, fun X2 W2 e2 => h X2 W2 (e.trans e2)⟩
  | .ptr ty K => .one fun {X X' W W'} x v e ⟨b, cs, h1, h2, h3, h4⟩ => by
      have hl : b < W.heap.size := (Array.getElem?_eq_some_iff.1 h3).1
      exact ⟨b, cs, h1, e.notIn h2 hl, (e.keep b ⟨_, _, _, h3⟩ h2).trans h3, (Kd.stands P K).cells e h4⟩

theorem Kd.flat_cells (P : Program) : ∀ (K : Kd), K.flat = true → ∀ {X X' W W' x cs}, (K.sem P).cells X W x cs → (K.sem P).cells X' W' x cs
  | .int _, _, _, _, _, _, _, _, h => h
  | .bool, _, _, _, _, _, _, _, h => h
  | .str, _, _, _, _, _, _, _, h => h
  | .unit, _, _, _, _, _, _, _, h => h
  | .pair A B, hf, _, _, _, _, _, _, ⟨c1, c2, h, h1, h2⟩ => by
      simp only [Kd.flat, Bool.and_eq_true] at hf
      exact ⟨c1, c2, h, Kd.flat_cells P A hf.1 h1, Kd.flat_cells P B hf.2 h2⟩
  | .agg K, hf, _, _, _, _, _, _, h => Kd.flat_cells P K hf h
  | .sl _ _, hf, _, _, _, _, _, _, _ => by simp [Kd.flat] at hf
  | .nsl _ _, hf, _, _, _, _, _, _, _ => by simp [Kd.flat] at hf
  | .fn _ _, hf, _, _, _, _, _, _, _ => by simp [Kd.flat] at hf
  | .ptr _ _, hf, _, _, _, _, _, _, _ => by simp [Kd.flat] at hf
  | .seq _, hf, _, _, _, _, _, _, _ => by simp [Kd.flat] at hf

theorem Kd.flat_val (P : Program) : ∀ (K : Kd), K.flat = true → ∀ {X X' W W' x v}, (K.sem P).val X W x v → (K.sem P).val X' W' x v
  | .int _, _, _, _, _, _, _, _, h => h
  | .bool, _, _, _, _, _, _, _, h => h
  | .str, _, _, _, _, _, _, _, h => h
  | .unit, _, _, _, _, _, _, _, h => h
  | .pair A B, hf, _, _, _, _, _, _, h => h
  | .agg K, hf, _, _, _, _, _, _, ⟨cs, h, h1⟩ => ⟨cs, h, Kd.flat_cells P K hf h1⟩
  | .sl _ _, hf, _, _, _, _, _, _, _ => by simp [Kd.flat] at hf
  | .nsl _ _, hf, _, _, _, _, _, _, _ => by simp [Kd.flat] at hf
  | .fn _ _, hf, _, _, _, _, _, _, _ => by simp [Kd.flat] at hf
  | .ptr _ _, hf, _, _, _, _, _, _, _ => by simp [Kd.flat] at hf
  | .seq _, hf, _, _, _, _, _, _, _ => by simp [Kd.flat] at hf

theorem Kd.flat_vals (P : Program) : ∀ (K : Kd), K.flat = true → ∀ {X X' W W' x vs}, (K.sem P).vals X W x vs → (K.sem P).vals X' W' x vs
  | .int _, _, _, _, _, _, _, _, h => h
  | .bool, _, _, _, _, _, _, _, h => h
  | .str, _, _, _, _, _, _, _, h => h
  | .unit, _, _, _, _, _, _, _, h => h
  | .pair A B, hf, _, _, _, _, _, _, ⟨v, vs, h, h1, h2⟩ => by
      simp only [Kd.flat, Bool.and_eq_true] at hf
      exact ⟨v, vs, h, Kd.flat_val P A hf.1 h1, Kd.flat_vals P B hf.2 h2⟩
  | .agg K, hf, _, _, _, _, _, _, ⟨cs, h, h1⟩ => ⟨cs, h, Kd.flat_cells P K hf h1⟩
  | .sl _ _, hf, _, _, _, _, _, _, _ => by simp [Kd.flat] at hf
  | .nsl _ _, hf, _, _, _, _, _, _, _ => by simp [Kd.flat] at hf
  | .fn _ _, hf, _, _, _, _, _, _, _ => by simp [Kd.flat] at hf
  | .ptr _ _, hf, _, _, _, _, _, _, _ => by simp [Kd.flat] at hf
  | .seq _, hf, _, _, _, _, _, _, _ => by simp [Kd.flat] at hf

theorem Kd.flat_ret (P : Program) : ∀ (K : Kd), K.flat = true → ∀ {X X' W W' x v}, (K.sem P).ret X W x v → (K.sem P).ret X' W' x v
  | .int _, _, _, _, _, _, _, _, h => h
  | .bool, _, _, _, _, _, _, _, h => h
  | .str, _, _, _, _, _, _, _, h => h
  | .unit, _, _, _, _, _, _, _, h => h
  | .pair A B, hf, _, _, _, _, _, _, ⟨v, vs, h, h1, h2⟩ => by
      simp only [Kd.flat, Bool.and_eq_true] at hf
      exact ⟨v, vs, h, Kd.flat_val P A hf.1 h1, Kd.flat_vals P B hf.2 h2⟩
  | .agg K, hf, _, _, _, _, _, _, ⟨cs, h, h1⟩ => ⟨cs, h, Kd.flat_cells P K hf h1⟩
  | .sl _ _, hf, _, _, _, _, _, _, _ => by simp [Kd.flat] at hf
  | .nsl _ _, hf, _, _, _, _, _, _, _ => by simp [Kd.flat] at hf
  | .fn _ _, hf, _, _, _, _, _, _, _ => by simp [Kd.flat] at hf
  | .ptr _ _, hf, _, _, _, _, _, _, _ => by simp [Kd.flat] at hf
  | .seq _, hf, _, _, _, _, _, _, _ => by simp [Kd.flat] at hf

end Go.GX
set_option linter.unusedVariables false
namespace Go.GX
open Go.RowKit Go.Shelf Go.Proofs

inductive Cap where
  | l (l : Nat)
  | d (ty : TypeId) (K : Kd) (x : K.T)

inductive SC where
  | v (u : Value)
  | d (K : Kd) (x : K.T)
  | fr (e : TypeId) (K : Kd) (xs : List K.T)
  | nl (e : TypeId) (K : Kd)
  | own (l : Nat)
  | ptr (l off : Nat)
  | ep (l j sz off : Nat)
  | dp (K : Kd) (x : K.T) (off : Nat)
  | inn (l vl j : Nat)
  | iep (l vl j i sz off : Nat)
  | clo (f : FuncId) (caps : List Cap)
  | sub (l lo hi sz : Nat)
  | pt (l n : Nat) (j : Int)

inductive SV where
  | any
  | mk (agg : Bool) (cs : List SC)
  | tup (vs : List (Bool × List SC))

inductive HE where
  | box (own : Bool) (ty : TypeId) (cs : List SC)
  | row (nn : Bool) (e : TypeId) (K : Kd) (xs : List K.T)
  | dat (nn : Bool) (e : TypeId) (K : Kd) (xs : List K.T)
  | ln (e : TypeId) (K : Kd) (xs : List K.T)
  | mat (nn : Bool) (e : TypeId) (ag : Bool) (e1 : TypeId) (K1 : Kd) (xs : List (List K1.T)) (hole : Option Nat) (vl : Nat)

structure TI where
  kd : Kd
  bytes : Nat

structure Ct where
  A : Kd
  C : Kd
  R : Kd
  wp : A.T → C.T → (R.T → Prop) → Prop
  fresh : Bool
  own : Bool := false

structure GV where
  ty : TypeId
  K : Kd
  x : K.T

structure Stat where
  ty : TypeId → Option TI
  sl : TypeId → Option TypeId
  fld : TypeId → Nat → Option (Nat × TypeId)
  glb : Nat → Option GV
  ct : FuncId → Option Ct
  eq : TypeId → Option Nat
  mkr : FuncId → Option (TypeId × FuncId)
  lit : Nat → Bool
  inl : FuncId → Bool
  clip : FuncId → Bool
  arr : TypeId → Option (Nat × TypeId)

structure St where
  n : Nat
  tm : Nat → SV
  hp : Nat → Option (HE × Nat)
  cnt : Nat
  dom : List Nat

def dl (lab c : Nat) : Nat := (lab + 1) * 10000000000 + c
def vlab (lab : Nat) : Nat := dl lab 0
def ol (lab c : Nat) : Nat := dl lab (2 * c + 1)
def olv (lab c : Nat) : Nat := dl lab (2 * c + 2)

def freshL (lab : Nat) : List Nat → Bool
  | [] => true
  | l :: r => cond (Nat.beq l lab || (Nat.ble ((lab + 1) * 10000000000) l && Nat.blt l ((lab + 2) * 10000000000))) false (freshL lab r)

def updf {α : Type} (f : Nat → α) (d : Nat) (v : α) : Nat → α := fun t => cond (Nat.beq t d) v (f t)

def St.put (st : St) (dst : Option Nat) (sv : SV) : St :=
  match dst with
  | some d => { st with tm := updf st.tm d sv }
  | none => st

def St.look (st : St) (l : Nat) : Option HE := (st.hp l).map (·.1)

def St.upds : St → List (Nat × Option HE) → St
  | st, [] => st
  | st, (l, h) :: r => St.upds { st with hp := updf st.hp l (h.map fun x => (x, st.cnt + 1)), cnt := st.cnt + 1, dom := l :: st.dom } r

def Kd.isAgg : Kd → Bool
  | .agg _ => true
  | _ => false

def elK (ag : Bool) (e1 : TypeId) (K1 : Kd) : Kd :=
  match ag with
  | true => .agg (.sl e1 K1)
  | false => .sl e1 K1

def elX (ag : Bool) (e1 : TypeId) (K1 : Kd) (x : List K1.T) : (elK ag e1 K1).T :=
  match ag with
  | true => x
  | false => x

def Kd.fl : (K : Kd) → K.T → List SC
  | .pair A B, x => A.fl x.1 ++ B.fl x.2
  | .unit, _ => []
  | .agg K, x => K.fl x
  | .int k, x => [.d (.int k) x]
  | .bool, x => [.d .bool x]
  | .str, x => [.d .str x]
  | .sl e K, x => [.d (.sl e K) x]
  | .nsl e K, x => [.d (.nsl e K) x]
  | .fn A R, x => [.d (.fn A R) x]
  | .ptr t K, x => [.d (.ptr t K) x]
  | .seq A, x => [.d (.seq A) x]

def Kd.zc : Kd → List SC
  | .pair A B => A.zc ++ B.zc
  | .unit => []
  | .agg K => K.zc
  | .int k => [.d (.int k) (0 : Int)]
  | .bool => [.d .bool false]
  | .str => [.d .str ByteArray.empty]
  | .sl e K => [.nl e K]
  | .nsl e K => [.nl e K]
  | .fn _ _ => [.v .nilFunc]
  | .ptr _ _ => [.v (.pointer none)]
  | .seq _ => [.v .nilFunc]

def Kd.zv : Kd → List Value
  | .pair A B => A.zv ++ B.zv
  | .unit => []
  | .agg K => K.zv
  | .int k => [.int k 0]
  | .bool => [.bool false]
  | .str => [.string ByteArray.empty]
  | .sl _ _ => [.slice none 0 0]
  | .nsl _ _ => [.slice none 0 0]
  | .fn _ _ => [.nilFunc]
  | .ptr _ _ => [.pointer none]
  | .seq _ => [.nilFunc]

def Kd.zok : Kd → Bool
  | .pair A B => A.zok && B.zok
  | .agg K => K.zok
  | .fn _ _ | .ptr _ _ | .seq _ => false
  | _ => true

def castT {K K' : Kd} (h : K = K') (x : K.T) : K'.T := h ▸ x
def castL {K K' : Kd} (h : K = K') (xs : List K.T) : List K'.T := h ▸ xs

def mkv (K : Kd) (x : K.T) : SV := .mk K.isAgg (K.fl x)

def Kd.ownOK : Kd → Bool
  | .pair A B => A.ownOK && B.ownOK
  | .agg K => K.ownOK
  | .sl _ (.sl _ K1) => K1.flat && Nat.ble 1 K1.n
  | .sl _ (.agg (.sl _ K1)) => K1.flat && Nat.ble 1 K1.n
  | .sl _ K => K.flat && Nat.ble 1 K.n
  | .unit => true
  | .int _ => true
  | .bool => true
  | .str => true
  | _ => false

def slO (lab : Nat) (e : TypeId) : (K : Kd) → List K.T → Nat → List SC × List (Nat × Option HE) × Nat
  | .sl e1 K1, xs, c => ([.own (ol lab c)], [(olv lab c, none), (ol lab c, some (.mat false e false e1 K1 xs none (olv lab c)))], c + 1)
  | .agg (.sl e1 K1), xs, c => ([.own (ol lab c)], [(olv lab c, none), (ol lab c, some (.mat false e true e1 K1 xs none (olv lab c)))], c + 1)
  | K, xs, c => ([.own (ol lab c)], [(ol lab c, some (.row false e K xs))], c + 1)

def Kd.flO (lab : Nat) : (K : Kd) → K.T → Nat → List SC × List (Nat × Option HE) × Nat
  | .pair A B, x, c => ((A.flO lab x.1 c).1 ++ (B.flO lab x.2 (A.flO lab x.1 c).2.2).1, (A.flO lab x.1 c).2.1 ++ (B.flO lab x.2 (A.flO lab x.1 c).2.2).2.1, (B.flO lab x.2 (A.flO lab x.1 c).2.2).2.2)
  | .agg K, x, c => K.flO lab x c
  | .sl e K, x, c => slO lab e K x c
  | K, x, c => (K.fl x, [], c)

def Kd.compsO (lab : Nat) : (K : Kd) → K.T → Nat → List (Bool × List SC) × List (Nat × Option HE)
  | .pair A B, x, c => ((A.isAgg, (A.flO lab x.1 c).1) :: (B.compsO lab x.2 (A.flO lab x.1 c).2.2).1, (A.flO lab x.1 c).2.1 ++ (B.compsO lab x.2 (A.flO lab x.1 c).2.2).2)
  | .unit, _, _ => ([], [])
  | K, x, c => ([(K.isAgg, (K.flO lab x c).1)], (K.flO lab x c).2.1)

def retO (lab : Nat) (R : Kd) (r : R.T) : SV × List (Nat × Option HE) :=
  match R, r with
  | .pair A B, r => (.tup ((Kd.pair A B).compsO lab r 0).1, ((Kd.pair A B).compsO lab r 0).2)
  | .unit, _ => (.tup [], [])
  | R, r => (.mk R.isAgg (R.flO lab r 0).1, (R.flO lab r 0).2.1)

def Kd.comps : (K : Kd) → K.T → List (Bool × List SC)
  | .pair A B, x => (A.isAgg, A.fl x.1) :: B.comps x.2
  | .unit, _ => []
  | .agg K, x => [(true, K.fl x)]
  | K, x => [(false, K.fl x)]

def retv (K : Kd) (x : K.T) : SV :=
  match K, x with
  | .pair A B, x => .tup (Kd.comps (.pair A B) x)
  | .unit, _ => .tup []
  | K, x => mkv K x

section
variable (S : Stat)

def cSV (t : TypeId) : Value → SV
  | .int k n => .mk false [.d (.int k) n]
  | .bool b => .mk false [.d .bool b]
  | .string s => .mk false [.d .str s]
  | .slice none 0 0 => match S.sl t with
    | some e => match S.ty e with
      | some i => .mk false [.nl e i.kd]
      | none => .any
    | none => .any
  | .nilFunc => .mk false [.v .nilFunc]
  | _ => .any

def ev (st : St) (t : TypeId) : Operand → SV
  | .tmp n => st.tm n
  | .const v => cSV S t v
  | .global g => match S.glb g with
    | some v => .mk false [.dp v.K v.x 0]
    | none => .any
  | .func f => .mk false [.clo f []]

def decOne {α : Type} (d : SC → Option (α × List Nat)) (cs : List SC) : Option (α × List SC × List Nat) :=
  match cs with
  | c :: r => match d c with
    | some (x, l) => some (x, r, l)
    | none => none
  | [] => none

def decs (d1 : (K : Kd) → SC → Option (K.T × List Nat)) : (K : Kd) → List SC → Option (K.T × List SC × List Nat)
  | .pair A B => fun cs => match decs d1 A cs with
    | some (x, r, l) => match decs d1 B r with
      | some (y, r', l') => some ((x, y), r', l ++ l')
      | none => none
    | none => none
  | .unit => fun cs => some ((), cs, [])
  | .agg K => decs d1 K
  | .int k => decOne (d1 (.int k))
  | .bool => decOne (d1 .bool)
  | .str => decOne (d1 .str)
  | .sl e K => decOne (d1 (.sl e K))
  | .nsl e K => decOne (d1 (.nsl e K))
  | .fn A R => decOne (d1 (.fn A R))
  | .ptr t K => decOne (d1 (.ptr t K))
  | .seq A => decOne (d1 (.seq A))

def Cap.sc : Cap → SC
  | .l m => .ptr m 0
  | .d t K y => .d (.ptr t K) y

def capsD (d1 : (K : Kd) → SC → Option (K.T × List Nat)) : (K : Kd) → List Cap → Option (K.T × List Nat)
  | .unit, [] => some ((), [])
  | .pair (.ptr t A) B, c :: r => match d1 (.ptr t A) c.sc with
    | some (x, l) => match capsD d1 B r with
      | some (y, l') => some ((x, y), l ++ l')
      | none => none
    | none => none
  | _, _ => none

def Kd.arg : Kd → Bool
  | .pair _ _ | .unit => false
  | _ => true

def isNone (K : Kd) : Option (List K.T) := none

def asSl (K1 : Kd) : (K' : Kd) → K'.T → Option (List K1.T)
  | .nsl _ K2, x => if h : K2 = K1 then some (castL h (Option.getD x [])) else none
  | .sl _ K2, x => if h : K2 = K1 then some (castL h x) else none
  | _, _ => none

def ownDec (l : Nat) (nn : Bool) (K' : Kd) (xs : List K'.T) : (K : Kd) → Option (K.T × List Nat)
  | .sl _ K1 => if h : K' = K1 then some (castL h xs, [l]) else none
  | .nsl _ K1 => if h : K' = K1 then (if nn then some (some (castL h xs), [l]) else none) else none
  | _ => none

def dec1 (look : Nat → Option HE) : (n : Nat) → (K : Kd) → SC → Option (K.T × List Nat)
  | 0, _, _ => none
  | n + 1, K, c =>
    match c with
    | .d K' x => if h : K' = K then some (castT h x, []) else
      match K with
      | .sl _ K1 => (asSl K1 K' x).map fun xs => (xs, [])
      | _ => none
    | .fr _ K' xs => match K with
      | .sl _ K1 => if h : K' = K1 then some (castL h xs, []) else none
      | _ => none
    | .nl _ _ => match K with
      | .sl _ K1 => some (([] : List K1.T), [])
      | .nsl _ K1 => some (isNone K1, [])
      | _ => none
    | .own l => match look l with
      | some (.row nn _ K' xs) => ownDec l nn K' xs K
      | some (.dat nn _ K' xs) => ownDec l nn K' xs K
      | some (.ln _ K' xs) => ownDec l false K' xs K
      | some (.mat nn _ ag e1 K1 xs none _) => ownDec l nn (elK ag e1 K1) (xs.map (elX ag e1 K1)) K
      | _ => none
    | .inn l vl j => match look l with
      | some (.mat _ _ _ _ K1 xs none vl') => cond (Nat.beq vl vl') (ownDec l false K1 (xs.getD j []) K) none
      | _ => none
    | .ptr l 0 => match look l with
      | some (.box _ ty cs) => match K with
        | .ptr ty' K1 => if ty = ty' then (match decs (dec1 look n) K1 cs with
          | some (x, [], ls) => some (x, l :: ls)
          | _ => none) else none
        | _ => none
      | _ => none
    | .clo f cs => match S.ct f with
      | some c => match K with
        | .fn A R => if ho : c.own = false then if h : A = c.A then if h' : c.R = R then (match capsD (dec1 look n) c.C cs with
          | some (y, ls) => some ((fun (x : A.T) (Q : R.T → Prop) => c.wp (castT h x) y (fun r => Q (castT h' r))), ls)
          | none => none) else none else none else none
        | _ => none
      | none => none
    | _ => none

def decArg (d1 : (K : Kd) → SC → Option (K.T × List Nat)) (K : Kd) (ss : List SV) : Option (K.T × List Nat) :=
  match ss with
  | [.mk a cs] => if (a == K.isAgg && K.arg) = true then (match decs d1 K cs with
    | some (x, [], l) => some (x, l)
    | _ => none) else none
  | _ => none

def decArgs (d1 : (K : Kd) → SC → Option (K.T × List Nat)) : (K : Kd) → List SV → Option (K.T × List Nat)
  | .unit => fun ss => match ss with
    | [] => some ((), [])
    | _ => none
  | .pair A B => fun ss => match ss with
    | .mk a cs :: r => if (a == A.isAgg && A.arg) = true then (match decs d1 A cs with
      | some (x, [], l) => match decArgs d1 B r with
        | some (y, l') => some ((x, y), l ++ l')
        | none => none
      | _ => none) else none
    | _ => none
  | .agg K => decArg d1 (.agg K)
  | .int k => decArg d1 (.int k)
  | .bool => decArg d1 .bool
  | .str => decArg d1 .str
  | .sl e K => decArg d1 (.sl e K)
  | .nsl e K => decArg d1 (.nsl e K)
  | .fn A R => decArg d1 (.fn A R)
  | .ptr t K => decArg d1 (.ptr t K)
  | .seq A => decArg d1 (.seq A)

def slData (look : Nat → Option HE) : SC → Option ((K : Kd) × List K.T × List Nat)
  | .d (.sl _ K) xs => some ⟨K, xs, []⟩
  | .d (.nsl _ K) xo => some ⟨K, Option.getD xo [], []⟩
  | .fr _ K xs => some ⟨K, xs, []⟩
  | .nl _ K => some ⟨K, [], []⟩
  | .own l => match look l with
    | some (.row _ _ K xs) => some ⟨K, xs, [l]⟩
    | some (.dat _ _ K xs) => some ⟨K, xs, []⟩
    | some (.ln _ K xs) => some ⟨K, xs, [l]⟩
    | some (.mat _ _ ag e1 K1 xs none _) => some ⟨elK ag e1 K1, xs.map (elX ag e1 K1), [l]⟩
    | _ => none
  | .inn l vl j => match look l with
    | some (.mat _ _ _ _ K1 xs none vl') => cond (Nat.beq vl vl') (some ⟨K1, xs.getD j [], [l]⟩) none
    | _ => none
  | .sub l lo hi sz => match look l with
    | some (.row _ _ K xs) => cond (Nat.beq sz K.n) (some ⟨K, (xs.take hi).drop lo, [l]⟩) none
    | _ => none
  | _ => none

def allI (k : IntKind) : List SC → Option (List Int)
  | [] => some []
  | .d (.int k') x :: r => if k' = k then (allI k r).map fun xs => List.cons (α := Int) x xs else none
  | _ => none
def allB : List SC → Option (List Bool)
  | [] => some []
  | .d .bool x :: r => (allB r).map fun xs => List.cons (α := Bool) x xs
  | _ => none

def pickD (j : Int) (cs : List SC) : Option SC :=
  match cs with
  | .d (.int k) x :: _ => (allI k cs).map fun (xs : List Int) => .d (.int k) (List.getD (α := Int) xs j.toNat x)
  | .d .bool x :: _ => (allB cs).map fun (xs : List Bool) => .d .bool (List.getD (α := Bool) xs j.toNat x)
  | _ => none

def setD (j : Int) (cs : List SC) (v : List SC) : Option (List SC) :=
  match v with
  | [.d (.int k) u] => (allI k cs).map fun (xs : List Int) => (List.range xs.length).map fun i => .d (.int k) (List.getD (α := Int) (List.set (α := Int) xs j.toNat u) i u)
  | [.d .bool u] => (allB cs).map fun (xs : List Bool) => (List.range xs.length).map fun i => .d .bool (List.getD (α := Bool) (List.set (α := Bool) xs j.toNat u) i u)
  | _ => none

def cellsAt (look : Nat → Option HE) : SC → Option (List SC)
  | .ptr l off => match look l with
    | some (.box _ _ cs) => some (cs.drop off)
    | _ => none
  | .ep l j sz off => match look l with
    | some (.row _ _ K xs) => cond (Nat.beq sz K.n) (some ((K.fl (xs.getD j K.dflt)).drop off)) none
    | some (.dat _ _ K xs) => cond (Nat.beq sz K.n) (some ((K.fl (xs.getD j K.dflt)).drop off)) none
    | some (.ln _ K xs) => cond (Nat.beq sz K.n) (some ((K.fl (xs.getD j K.dflt)).drop off)) none
    | some (.mat _ _ _ _ _ _ none vl) => cond (Nat.beq sz 1 && Nat.beq off 0) (some [.inn l vl j]) none
    | _ => none
  | .iep l vl j i sz off => match look l with
    | some (.mat _ _ _ _ K1 xs none vl') => cond (Nat.beq vl vl' && Nat.beq sz K1.n) (some ((K1.fl ((xs.getD j []).getD i K1.dflt)).drop off)) none
    | _ => none
  | .dp K x off => some ((K.fl x).drop off)
  | .pt l n j => match look l with
    | some (.box _ _ cs) => cond (Nat.ble n cs.length) ((pickD j (cs.take n)).map fun c => [c]) none
    | _ => none
  | .d (.ptr _ K) x => some (K.fl x)
  | _ => none

def moveP (n : Nat) : SC → Option SC
  | .ptr l off => some (.ptr l (off + n))
  | .ep l j sz off => some (.ep l j sz (off + n))
  | .iep l vl j i sz off => some (.iep l vl j i sz (off + n))
  | .dp K x off => some (.dp K x (off + n))
  | .d (.ptr _ K) x => some (.dp K x n)
  | _ => none

def splice {α : Type} (cs : List α) (off : Nat) (new : List α) : List α := cs.take off ++ new ++ cs.drop (off + new.length)

def frzHE : HE → HE
  | .box _ ty cs => .box false ty cs
  | .row nn e K xs => .dat nn e K xs
  | .mat nn e ag e1 K1 xs none _ => .dat nn e (elK ag e1 K1) (xs.map (elX ag e1 K1))
  | h => h

def HE.frB : HE → Bool
  | .ln _ _ _ => false
  | .mat _ _ _ _ _ _ (some _) _ => false
  | _ => true

def frz (look : Nat → Option HE) : List Nat → List (Nat × Option HE)
  | [] => []
  | l :: r => match look l with
    | some h => (l, some (frzHE h)) :: frz look r
    | none => frz look r

def noLn (look : Nat → Option HE) : List Nat → Bool
  | [] => true
  | l :: r => (match look l with
    | some h => h.frB
    | none => true) && noLn look r

def chk (b : Bool) (p : Prop) : Prop :=
  match b with
  | true => p
  | false => False

def cnd (b : Bool) (p q : Prop) : Prop :=
  match b with
  | true => p
  | false => q

theorem cnd_iff {b : Bool} {p q : Prop} : cnd b p q ↔ (b = true → p) ∧ (b = false → q) := by cases b <;> simp [cnd]

def gdS (b want : Bool) (p q : Prop) : Prop :=
  match want with
  | true => cnd b p q
  | false => cnd b q p

theorem gdS_iff {b want : Bool} {p q : Prop} : gdS b want p q ↔ (b = want → p) ∧ (b ≠ want → q) := by cases b <;> cases want <;> simp [gdS, cnd]

theorem chk_iff {b : Bool} {p : Prop} : chk b p ↔ b = true ∧ p := by cases b <;> simp [chk]

def oneB (v : SV) (k : Bool → Prop) : Prop :=
  match v with
  | .mk false [.d .bool b] => k b
  | _ => False

def oneC (v : SV) (k : SC → Prop) : Prop :=
  match v with
  | .mk false [c] => k c
  | _ => False

def oneI (v : SV) (k : Int → Prop) : Prop :=
  match v with
  | .mk false [.d (.int _) x] => k x
  | _ => False

def oneIK (v : SV) (k : IntKind → Int → Prop) : Prop :=
  match v with
  | .mk false [.d (.int q) x] => k q x
  | _ => False

def cellsOf (v : SV) (k : List SC → Prop) : Prop :=
  match v with
  | .mk _ cs => k cs
  | _ => False

def memL (l : Nat) : List Nat → Bool
  | [] => false
  | m :: r => cond (Nat.beq l m) true (memL l r)

def aggC (v w : SV) (k : List SC → List SC → Prop) (p : Prop) : Prop :=
  match v, w with
  | .mk true cs, .mk true ds => k cs ds
  | _, _ => p

def optK {α : Type} (o : Option α) (k : α → Prop) : Prop :=
  match o with
  | some x => k x
  | none => False

def boolSV (b : Bool) : SV := .mk false [.d .bool b]
def intSV (k : IntKind) (n : Int) : SV := .mk false [.d (.int k) n]

def isNil (dr : Bool) (look : Nat → Option HE) : SC → (Bool → Prop) → Prop
  | .d (.sl _ K) xs, k => chk (!dr) (∀ b : Bool, (b = true → xs = ([] : List K.T)) → k b)
  | .d (.nsl _ _) xo, k => k (Option.isNone xo)
  | .nl _ _, k => k true
  | .own l, k => match look l with
    | some (.row nn _ K xs) => cond nn (k false) (chk (!dr) (∀ b : Bool, (b = true → xs = ([] : List K.T)) → k b))
    | some (.dat nn _ K xs) => cond nn (k false) (chk (!dr) (∀ b : Bool, (b = true → xs = ([] : List K.T)) → k b))
    | some (.mat nn _ _ _ _ _ _ _) => cond nn (k false) False
    | _ => False
  | _, _ => False

def cmpI (op : BinOp) (x y : Int) (k : Bool → Prop) : Prop :=
  match op with
  | .eql => k (x == y)
  | .neq => k (x != y)
  | .lss => k (decide (x < y))
  | .leq => k (decide (x ≤ y))
  | .gtr => k (decide (x > y))
  | .geq => k (decide (x ≥ y))
  | _ => False

def binI (op : BinOp) (k : IntKind) (x y : Int) (Q : SV → Prop) : Prop :=
  match op with
  | .add => Q (intSV k (k.wrap (x + y)))
  | .sub => Q (intSV k (k.wrap (x - y)))
  | .mul => Q (intSV k (k.wrap (x * y)))
  | .quo => y ≠ 0 ∧ Q (intSV k (k.wrap (Int.tdiv x y)))
  | .rem => y ≠ 0 ∧ Q (intSV k (Int.tmod x y))
  | .and => Q (intSV k (k.wrap (BitVec.toNat (BitVec.ofInt k.bits x &&& BitVec.ofInt k.bits y))))
  | op => cmpI op x y fun r => Q (boolSV r)

def binB (op : BinOp) (x y : Bool) (Q : SV → Prop) : Prop :=
  match op with
  | .eql => Q (boolSV (x == y))
  | .neq => Q (boolSV (!(x == y)))
  | _ => False

def cvtS (K : Kd) (n : Int) (Q : SV → Prop) : Prop :=
  match K with
  | .int k => Q (intSV k (k.wrap n))
  | _ => False

def unS (op : UnOp) (a : SC) (Q : SV → Prop) : Prop :=
  match op, a with
  | .not, .d .bool b => Q (boolSV (Bool.not b))
  | .neg, .d (.int k) n => Q (intSV k (k.wrap (Int.sub 0 n)))
  | _, _ => False

def isBoolT : Option TI → Bool
  | some ⟨.bool, _⟩ => true
  | _ => false

def shS (op : BinOp) (k : IntKind) (x y : Int) (Q : SV → Prop) (p : Prop) : Prop :=
  match op with
  | .shr => 0 ≤ y ∧ Q (intSV k (Int.fdiv x (2 ^ (min (Int.toNat y) k.bits))))
  | .shl => False
  | _ => p

def eqIs : List SC → List SC → Option Bool
  | [], [] => some true
  | .d (.int k) x :: r, .d (.int k') y :: s => cond (decide (k = k')) ((eqIs r s).map fun b => (@BEq.beq Int _ x y) && b) none
  | _, _ => none

def eqAgg (n : Option Nat) (op : BinOp) (cs ds : List SC) (Q : SV → Prop) : Prop :=
  optK n fun n => chk (Nat.beq cs.length n && Nat.beq ds.length n) <| optK (eqIs cs ds) fun b => match op with
    | .eql => Q (boolSV b)
    | .neq => Q (boolSV (!b))
    | _ => False

def binS (dr tb ts : Bool) (look : Nat → Option HE) (op : BinOp) (a b : SC) (Q : SV → Prop) : Prop :=
  match a, b with
  | .d (.int k) x, .d (.int k') y => shS op k x y Q (chk (decide (k = k')) (binI op k x y Q))
  | .d .bool x, .d .bool y => chk tb (binB op x y Q)
  | c, .nl _ _ => chk ts (match op with
      | .eql => isNil dr look c fun r => Q (boolSV r)
      | .neq => isNil dr look c fun r => Q (boolSV (!r))
      | _ => False)
  | _, _ => False

def fldCells (parts : List (Nat × List SC)) (cs : List SC) : List SC := parts.foldl (fun cs p => splice cs p.1 p.2) cs

def evAll (st : St) (ts : List TypeId) (xs : List Operand) : List SV := (xs.zipIdx).map fun p => ev S st (ts.getD p.2 0) p.1

def partsS (st : St) (t : TypeId) (n : Nat) : List (Nat × Operand) → (List (Nat × List SC) → Prop) → Prop
  | [], k => k []
  | (i, x) :: r, k => optK (S.fld t i) fun f => optK (S.ty f.2) fun ti => cellsOf (ev S st f.2 x) fun cs => chk (Nat.beq cs.length ti.kd.n && Nat.ble (f.1 + cs.length) n) (partsS st t n r fun ps => k ((f.1, cs) :: ps))

def partsA (st : St) (e : TypeId) (sz n : Nat) : List (Nat × Operand) → (List (Nat × List SC) → Prop) → Prop
  | [], k => k []
  | (i, x) :: r, k => cellsOf (ev S st e x) fun cs => chk (Nat.beq cs.length sz && Nat.ble (i * sz + cs.length) n) (partsA st e sz n r fun ps => k ((i * sz, cs) :: ps))

def idxC (j : Int) (F : Nat → Prop) : Nat → Nat → Prop
  | _, 0 => False
  | k, m + 1 => cnd (decide (j = (k : Int))) (F k) (idxC j F (k + 1) m)

def idxArr (st : St) (ix : Operand) (n : Nat) (F : Nat → Prop) : Prop :=
  match ix with
  | .const (.int _ z) => chk (decide (0 ≤ z) && decide (z < (n : Int))) (F z.toNat)
  | ix => oneI (ev S st 0 ix) fun j => 0 ≤ j ∧ j < (n : Int) ∧ idxC j F 0 n

def isTmp : Operand → Bool
  | .tmp _ => true
  | _ => false
def idxPt (st : St) (ix : Operand) (n sz : Nat) (c : SC) (k : SC → Prop) (p : Prop) : Prop :=
  match c with
  | .ptr l 0 => match st.look l with
    | some (.box _ _ cs) => cond (isTmp ix && Nat.beq sz 1 && Nat.ble n cs.length && (pickD 0 (cs.take n)).isSome) (oneI (ev S st 0 ix) fun j => 0 ≤ j ∧ j < (n : Int) ∧ k (.pt l n j)) p
    | _ => p
  | _ => p
def idxV (st : St) (ix : Operand) (n : Nat) (kd : Kd) (cs : List SC) (k : SC → Prop) (p : Prop) : Prop :=
  cond (isTmp ix && !kd.isAgg && Nat.beq kd.n 1 && Nat.ble n cs.length && (pickD 0 (cs.take n)).isSome) (oneI (ev S st 0 ix) fun j => 0 ≤ j ∧ j < (n : Int) ∧ optK (pickD j (cs.take n)) k) p

def elemsS (st : St) (e : TypeId) (n : Nat) : Nat → List (Nat × Operand) → (List SC → Prop) → Prop
  | _, [], k => k []
  | i, (j, x) :: r, k => chk (Nat.beq i j) (cellsOf (ev S st e x) fun cs => chk (Nat.beq cs.length n) (elemsS st e n (i + 1) r fun ds => k (cs ++ ds)))

def decList (d1 : (K : Kd) → SC → Option (K.T × List Nat)) (K : Kd) : (n : Nat) → List SC → Option (List K.T × List Nat)
  | 0, [] => some ([], [])
  | 0, _ => none
  | n + 1, cs => match decs d1 K cs with
    | some (x, r, l) => match decList d1 K n r with
      | some (xs, l') => some (x :: xs, l ++ l')
      | none => none
    | none => none

def fuel : Nat := 6

def capsOf : List SV → Option (List Cap)
  | [] => some []
  | .mk false [.ptr l 0] :: r => (capsOf r).map (.l l :: ·)
  | .mk false [.d (.ptr t K) x] :: r => (capsOf r).map (.d t K x :: ·)
  | _ => none

def optI (st : St) (x : Option Operand) (dflt : Int) (k : Int → Prop) : Prop :=
  match x with
  | some a => oneI (ev S st 0 a) k
  | none => k dflt

def mxI (a b : Int) : Int := if b > a then b else a
def mnI (a b : Int) : Int := if b < a then b else a

abbrev Eff := SV → List (Nat × Option HE) → Prop

def giv {α : Type} (dr : Bool) (g : (α → Prop) → Prop) (k : α → Prop) : Prop :=
  match dr with
  | false => g k
  | true => ∃ r, g (fun r' => r' = r) ∧ k r

def idxS (look : Nat → Option HE) (n : Nat) (c : SC) (j : Int) (Q : Eff) : Prop :=
  match c with
  | .own l => match look l with
    | some (.row _ _ K xs) => chk (Nat.beq K.n n) (0 ≤ j ∧ j < (xs.length : Int) ∧ Q (.mk false [.ep l j.toNat K.n 0]) [])
    | some (.dat _ _ K xs) => chk (Nat.beq K.n n) (0 ≤ j ∧ j < (xs.length : Int) ∧ Q (.mk false [.dp K (xs.getD j.toNat K.dflt) 0]) [])
    | some (.ln _ K xs) => chk (Nat.beq K.n n) (0 ≤ j ∧ j < (xs.length : Int) ∧ Q (.mk false [.ep l j.toNat K.n 0]) [])
    | some (.mat _ _ _ _ _ xs _ _) => chk (Nat.beq 1 n) (0 ≤ j ∧ j < (xs.length : Int) ∧ Q (.mk false [.ep l j.toNat 1 0]) [])
    | _ => False
  | .inn l vl i => match look l with
    | some (.mat _ _ _ _ K1 xs none vl') => chk (Nat.beq vl vl' && Nat.beq K1.n n) (0 ≤ j ∧ j < ((xs.getD i []).length : Int) ∧ Q (.mk false [.iep l vl i j.toNat K1.n 0]) [])
    | _ => False
  | .sub _ _ _ _ => False
  | c => optK (slData look c) fun d => chk (Nat.beq d.1.n n) (0 ≤ j ∧ j < (d.2.1.length : Int) ∧ Q (.mk false [.dp d.1 (d.2.1.getD j.toNat d.1.dflt) 0]) [])

def litB : SC → Bool
  | .fr _ _ (_ :: _) => true
  | _ => false

def appM (look : Nat → Option HE) (lab : Nat) (e : TypeId) (i : TI) (a : SC) (m : Nat) (nn' : Bool) (ag : Bool) (e1 : TypeId) (K1 : Kd) (ys : List (List K1.T)) (Q : Eff) : Prop :=
  match a with
  | .nl _ _ => ys.length * i.bytes ≤ 140737488355328 ∧ ys.length ≠ 0 ∧ Q (.mk false [.own lab]) [(m, none), (vlab lab, none), (lab, some (.mat true e ag e1 K1 ys none (vlab lab)))]
  | .own l => match look l with
    | some (.mat nn e' ag' e1' K1' xs none _) => chk (Nat.beq e' e && !Nat.beq l m && (ag == ag') && Nat.beq e1 e1') (if h : K1' = K1 then (xs.length + ys.length) * i.bytes ≤ 140737488355328 ∧ ys.length ≠ 0 ∧
        Q (.mk false [.own lab]) [(l, none), (m, none), (vlab lab, none), (lab, some (.mat true e ag e1 K1 ((xs.map (castL h)) ++ ys) none (vlab lab)))] else False)
    | _ => False
  | _ => False

def appS (look : Nat → Option HE) (lab : Nat) (e : TypeId) (i : TI) (a : SC) (ys : List i.kd.T) (lit : Bool) (ls : List Nat) (Q : Eff) : Prop :=
  match a with
  | .nl _ _ => ys.length * i.bytes ≤ 140737488355328 ∧ Q (.mk false [.own lab]) [(lab, some (.row lit e i.kd ys))]
  | .own l => match look l with
    | some (.row nn e' K xs) => chk (Nat.beq e' e && !memL l ls) (if h' : K = i.kd then (xs.length + ys.length) * i.bytes ≤ 140737488355328 ∧ Q (.mk false [.own lab]) [(l, none), (lab, some (.row (nn || lit) e i.kd (castL h' xs ++ ys)))] else False)
    | _ => False
  | .fr _ K xs => if h' : K = i.kd then (xs.length + ys.length) * i.bytes ≤ 140737488355328 ∧ ys.length ≠ 0 ∧ Q (.mk false [.own lab]) [(lab, some (.row true e i.kd (castL h' xs ++ ys)))] else False
  | .inn l vl j => match look l with
    | some (.mat nn e0 ag e1 K xs none vl') => chk (Nat.beq vl vl' && Nat.beq e1 e && !memL l ls) (if h' : K = i.kd then ((xs.getD j []).length + ys.length) * i.bytes ≤ 140737488355328 ∧
        Q (.mk false [.own lab]) [(l, some (.mat nn e0 ag e1 K xs (some j) vl)), (lab, some (.row lit e i.kd (castL h' (xs.getD j []) ++ ys)))] else False)
    | _ => False
  | _ => False

def sliceS (st : St) (hi : Bool) (d : (K : Kd) × List K.T × List Nat) (l h : Int) (Q : Eff) (mx : Option Operand) : Prop :=
  match mx with
  | none => chk (noLn st.look d.2.2) (Q (.mk false [.d (.sl 0 d.1) ((d.2.1.take h.toNat).drop l.toNat)]) (frz st.look d.2.2))
  | some a => chk (hi && noLn st.look d.2.2) <| oneI (ev S st 0 a) fun m => m = h ∧ Q (.mk false [.fr 0 d.1 ((d.2.1.take h.toNat).drop l.toNat)]) (frz st.look d.2.2)

def subS (st : St) (i : TI) (c : SC) (lo hi : Option Operand) (Q : Eff) : Prop :=
  match c with
  | .own l => match st.look l with
    | some (.row _ _ K xs) => chk (Nat.beq K.n i.kd.n) (optI S st lo 0 fun a => optI S st hi (xs.length : Int) fun b => 0 ≤ a ∧ a ≤ b ∧ b ≤ (xs.length : Int) ∧ Q (.mk false [.sub l a.toNat b.toNat K.n]) [])
    | _ => False
  | _ => False

def copyTo (look : Nat → Option HE) (d : SC) (k : Nat → Nat → Nat → Prop) : Prop :=
  match d with
  | .own l => match look l with
    | some (.row _ _ K xs) => k l 0 xs.length
    | _ => False
  | .sub l lo hi sz => match look l with
    | some (.row _ _ K xs) => chk (Nat.beq sz K.n) (k l lo hi)
    | _ => False
  | _ => False

def copyS (look : Nat → Option HE) (i : TI) (d s : SC) (Q : Eff) : Prop :=
  copyTo look d fun l lo hi => optK (slData look s) fun ys => match look l with
    | some (.row nn e K xs) => chk (nn && K.flat && Nat.beq K.n i.kd.n && Nat.ble 1 K.n) (if h : ys.1 = K then Q (intSV .i64 (min (hi - lo) ys.2.1.length : Nat)) [(l, some (.row nn e K (xs.take lo ++ (castL h ys.2.1).take (min (hi - lo) ys.2.1.length) ++ xs.drop (lo + min (hi - lo) ys.2.1.length))))] else False)
    | _ => False

def rowsL (look : Nat → Option HE) (e1 : TypeId) (K1 : Kd) : List SC → Option (List (List K1.T) × List Nat)
  | [] => some ([], [])
  | .nl _ _ :: r => (rowsL look e1 K1 r).map fun p => ([] :: p.1, p.2)
  | .own l :: r => match look l with
    | some (.row _ e' K' xs) => cond (Nat.beq e' e1) (if h : K' = K1 then (match rowsL look e1 K1 r with
      | some p => cond (memL l p.2) none (some (castL h xs :: p.1, l :: p.2))
      | none => none) else none) none
    | _ => none
  | _ => none

def litM (look : Nat → Option HE) (lab : Nat) (e : TypeId) (ag : Bool) (e1 : TypeId) (K1 : Kd) (cs : List SC) (Q : Eff) : Prop :=
  optK (rowsL look e1 K1 cs) fun p => chk (K1.flat && Nat.ble 1 K1.n) (Q (.mk false [.own lab]) ((p.2.map fun l => (l, none)) ++ [(vlab lab, none), (lab, some (.mat true e ag e1 K1 p.1 none (vlab lab)))]))

def litS (look : Nat → Option HE) (lab : Nat) (e : TypeId) (i : TI) (cs : List SC) (n : Nat) (Q : Eff) : Prop :=
  match i.kd with
  | .sl e1 K1 => litM look lab e false e1 K1 cs Q
  | .agg (.sl e1 K1) => litM look lab e true e1 K1 cs Q
  | _ => optK (decList (dec1 S look fuel) i.kd n cs) fun r => chk r.2.isEmpty (Q (.mk false [.own lab]) [(lab, some (.row true e i.kd r.1))])

def bslS (look : Nat → Option HE) (lab : Nat) (e : TypeId) (i : TI) (cs : List SC) (Q : Eff) (n : Nat) : Prop :=
  match n with
  | 0 => cond (S.lit (lab + 5000000)) (Q (.mk false [.fr e i.kd []]) []) (Q (.mk false [.own lab]) [(lab, some (.row true e i.kd []))])
  | n + 1 => optK (decList (dec1 S look fuel) i.kd (n + 1) cs) fun r => chk (noLn look r.2) (Q (.mk false [.fr e i.kd r.1]) (frz look r.2))

def callS (dr : Bool) (look : Nat → Option HE) (lab : Nat) (c : Ct) (x : c.A.T) (y : c.C.T) (ls : List Nat) (Q : Eff) : Prop :=
  match c.own with
  | true => chk (c.R.ownOK && Nat.ble c.R.n 1000) (giv dr (c.wp x y) fun r => Q (retO lab c.R r).1 (retO lab c.R r).2)
  | false => match c.fresh with
    | true => giv dr (c.wp x y) fun r => Q (retv c.R r) []
    | false => chk (c.R.flat || noLn look ls) (giv dr (c.wp x y) fun r => Q (retv c.R r) (if c.R.flat then [] else frz look ls))

def inlS (st : St) (args : List Operand) (ts : List TypeId) (Q : Eff) : Prop :=
  match args, ts with
  | [x], [t] => oneC (ev S st t x) fun c => Q (.mk true [c]) []
  | _, _ => False

def clipS (st : St) (args : List Operand) (ts : List TypeId) (Q : Eff) : Prop :=
  match args, ts with
  | [x], [t] => oneC (ev S st t x) fun c => optK (slData st.look c) fun d => chk (noLn st.look d.2.2) (Q (.mk false [.fr 0 d.1 d.2.1]) (frz st.look d.2.2))
  | _, _ => False

def mkS (st : St) (lab : Nat) (p : TypeId × FuncId) (cs : List Cap) (args : List Operand) (ts : List TypeId) (Q : Eff) : Prop :=
  match cs, args, ts with
  | [], [x], [t] => cellsOf (ev S st t x) fun ds => Q (.mk false [.clo p.2 [.l lab]]) [(lab, some (.box true p.1 ds))]
  | _, _, _ => False

def mkOr (o : Option (TypeId × FuncId)) (k : TypeId × FuncId → Prop) (p : Prop) : Prop :=
  match o with
  | some x => k x
  | none => p

def holeS (hole : Option Nat) (j : Nat) : Prop :=
  match hole with
  | some h => h = j
  | none => True

def isMat (look : Nat → Option HE) (b : SC) (k : (m : Nat) → (nn : Bool) → (ag : Bool) → (e1 : TypeId) → (K1 : Kd) → List (List K1.T) → Prop) (p : Prop) : Prop :=
  match b with
  | .own m => match look m with
    | some (.mat nn _ ag e1 K1 ys none _) => k m nn ag e1 K1 ys
    | _ => p
  | _ => p

def lenS (dr : Bool) (n : Nat) (p : Prop) : Prop :=
  match dr with
  | true => p
  | false => n ≤ 9223372036854775807 → p

def sem (dr : Bool) (st : St) (lab : Nat) (o : Oper) (Q : Eff) : Prop :=
  match o.op with
  | .move x => Q (ev S st o.type x) []
  | .assign x => Q (ev S st o.type x) []
  | .pick c a b => oneB (ev S st 0 c) fun t => cnd t (Q (ev S st o.type a) []) (Q (ev S st o.type b) [])
  | .alloc e => optK (S.ty e) fun i => Q (.mk false [.ptr lab 0]) [(lab, some (.box true e i.kd.zc))]
  | .box e x => optK (S.ty e) fun i => cellsOf (ev S st e x) fun cs => chk (Nat.beq cs.length i.kd.n) (Q (.mk false [.ptr lab 0]) [(lab, some (.box true e cs))])
  | .build t ps => optK (S.ty t) fun i => mkOr (S.arr t) (fun p => optK (S.ty p.2) fun q => partsA S st p.2 q.kd.n i.kd.n ps.toList fun ps => chk i.kd.isAgg (Q (.mk true (fldCells ps i.kd.zc)) [])) <| partsS S st t i.kd.n ps.toList fun ps => chk (i.kd.isAgg && (S.fld t 0).isSome) (Q (.mk true (fldCells ps i.kd.zc)) [])
  | .buildSlice t n ps => optK (S.sl t) fun e => optK (S.ty e) fun i => chk (Nat.ble (n * i.kd.n) 16777216 && Nat.beq ps.toList.length n && Nat.ble 1 i.kd.n) (elemsS S st e i.kd.n 0 ps.toList fun cs => cond (S.lit lab) (litS S st.look lab e i cs n Q) (bslS S st.look lab e i cs Q n))
  | .load t a => optK (S.ty t) fun i => oneC (ev S st t a) fun c => optK (cellsAt st.look c) fun cs => chk (Nat.ble i.kd.n cs.length) (Q (.mk i.kd.isAgg (cs.take i.kd.n)) [])
  | .store t a x => optK (S.ty t) fun i => oneC (ev S st t a) fun c => cellsOf (ev S st t x) fun cs => chk (Nat.beq cs.length i.kd.n)
      (match c with
      | .ptr l off => match st.look l with
        | some (.box true ty ds) => chk (Nat.ble (off + cs.length) ds.length) (Q .any [(l, some (.box true ty (splice ds off cs)))])
        | _ => False
      | .ep l j sz off => match st.look l with
        | some (.row nn e K xs) => chk (Nat.ble (off + cs.length) K.n && Nat.beq sz K.n) (match decs (dec1 S st.look fuel) K (splice (K.fl (xs.getD j K.dflt)) off cs) with
          | some (x, [], ls) => chk ls.isEmpty (Q .any [(l, some (.row nn e K (xs.set j x)))])
          | _ => False)
        | some (.mat nn e ag e1 K1 xs hole _) => chk (Nat.beq sz 1 && Nat.beq off 0 && Nat.beq cs.length 1) (optK (rowsL st.look e1 K1 cs) fun p => chk (!memL l p.2) (holeS hole j ∧
            Q .any ((p.2.map fun m => (m, none)) ++ [(vlab lab, none), (l, some (.mat nn e ag e1 K1 (xs.set j (p.1.getD 0 [])) none (vlab lab)))])))
        | _ => False
      | .iep l vl j i sz off => match st.look l with
        | some (.mat nn e ag e1 K1 xs none vl') => chk (Nat.beq vl vl' && Nat.ble (off + cs.length) K1.n && Nat.beq sz K1.n) (match decs (dec1 S st.look fuel) K1 (splice (K1.fl ((xs.getD j []).getD i K1.dflt)) off cs) with
          | some (x, [], ls) => chk ls.isEmpty (Q .any [(l, some (.mat nn e ag e1 K1 (xs.set j ((xs.getD j []).set i x)) none vl))])
          | _ => False)
        | _ => False
      | .pt l n j => match st.look l with
        | some (.box true ty ds) => chk (Nat.ble n ds.length) (optK (setD j (ds.take n) cs) fun ds' => Q .any [(l, some (.box true ty (ds' ++ ds.drop n)))])
        | _ => False
      | _ => False)
  | .nilCheck x => oneC (ev S st o.type x) fun c => match c with
      | .ptr l off => Q (.mk false [.ptr l off]) []
      | .ep l j sz off => Q (.mk false [.ep l j sz off]) []
      | .iep l vl j i sz off => Q (.mk false [.iep l vl j i sz off]) []
      | .dp K x off => Q (.mk false [.dp K x off]) []
      | .d (.ptr t K) x => Q (.mk false [.d (.ptr t K) x]) []
      | _ => False
  | .binOp op t x y t' => aggC (ev S st t x) (ev S st t' y) (fun cs ds => eqAgg (S.eq t) op cs ds fun r => Q r []) <| oneC (ev S st t x) fun a => oneC (ev S st t' y) fun b => binS dr (isBoolT (S.ty t)) (S.sl t).isSome st.look op a b fun r => Q r []
  | .convert t0 t x => optK (S.ty t0) fun _ => optK (S.ty t) fun i => oneI (ev S st t0 x) fun n => cvtS i.kd n fun r => Q r []
  | .unOp op _ x => oneC (ev S st o.type x) fun a => unS op a fun r => Q r []
  | .makeFunc (.func f) fi caps => chk (Nat.beq fi.toList.length 0) (optK (capsOf (caps.toList.map (ev S st 0))) fun cs => Q (.mk false [.clo f cs]) [])
  | .makeSlice t l c => optK (S.sl t) fun e => optK (S.ty e) fun i => chk (i.kd.zok && Nat.ble 1 i.bytes && Nat.ble 1 i.kd.n) (oneI (ev S st o.type l) fun n => oneI (ev S st o.type c) fun m => m = n ∧ 0 ≤ n ∧ n * (i.bytes : Int) ≤ 140737488355328 ∧
      Q (.mk false [.own lab]) [(lab, some (.row true e i.kd (List.replicate n.toNat i.kd.dflt)))])
  | .slice t x lo hi mx => optK (S.sl t) fun e => optK (S.ty e) fun i => oneC (ev S st t x) fun c => cond (S.lit lab && mx.isNone) (subS S st i c lo hi Q) <| optK (slData st.look c) fun d => chk (Nat.beq d.1.n i.kd.n) <|
      optI S st lo 0 fun l => optI S st hi (d.2.1.length : Int) fun h =>
      0 ≤ l ∧ l ≤ h ∧ h ≤ (d.2.1.length : Int) ∧
      sliceS S st hi.isSome d l h Q mx
  | .fieldAddr t x f => optK (S.fld t f) fun p => optK (S.ty p.2) fun i => chk (Nat.ble 1 i.kd.n) (oneC (ev S st t x) fun c => optK (moveP p.1 c) fun c' => Q (.mk false [c']) [])
  | .field t x f => optK (S.fld t f) fun p => optK (S.ty p.2) fun i => match ev S st t x with
      | .mk true cs => chk (Nat.ble (p.1 + i.kd.n) cs.length) (Q (.mk i.kd.isAgg ((cs.drop p.1).take i.kd.n)) [])
      | _ => False
  | .indexAddr t x ix => mkOr (S.arr t) (fun p => optK (S.ty p.2) fun i => chk (Nat.ble 1 i.kd.n) (oneC (ev S st t x) fun c => idxPt S st ix p.1 i.kd.n c (fun c' => Q (.mk false [c']) []) <| idxArr S st ix p.1 fun k => optK (moveP (k * i.kd.n) c) fun c' => Q (.mk false [c']) [])) <| optK (S.sl t) fun e => optK (S.ty e) fun i => oneC (ev S st t x) fun c => oneI (ev S st 0 ix) fun j => idxS st.look i.kd.n c j Q
  | .index t x ix => optK (S.arr t) fun p => optK (S.ty p.2) fun i => (match ev S st t x with
      | .mk true cs => idxV S st ix p.1 i.kd cs (fun c => Q (.mk false [c]) []) <| idxArr S st ix p.1 fun k => chk (Nat.ble (k * i.kd.n + i.kd.n) cs.length) (Q (.mk i.kd.isAgg ((cs.drop (k * i.kd.n)).take i.kd.n)) [])
      | _ => False)
  | .extract t ix => match ev S st 0 t with
      | .tup vs => match vs[ix]? with
        | some p => Q (.mk p.1 p.2) []
        | none => False
      | _ => False
  | .call c => match c.callee with
      | .builtin .len => match c.args.toList, c.argTypes.toList with
        | [x], [t] => optK (S.sl t) fun _ => oneC (ev S st t x) fun a => optK (slData st.look a) fun d => lenS dr d.2.1.length (Q (intSV .i64 (d.2.1.length : Int)) [])
        | _, _ => False
      | .builtin .max => match c.args.toList with
        | [x, y] => oneIK (ev S st o.type x) fun q a => oneI (ev S st o.type y) fun b => Q (intSV q (mxI a b)) []
        | _ => False
      | .builtin .min => match c.args.toList with
        | [x, y] => oneIK (ev S st o.type x) fun q a => oneI (ev S st o.type y) fun b => Q (intSV q (mnI a b)) []
        | _ => False
      | .builtin .copy => match c.args.toList, c.argTypes.toList with
        | [x, y], [t, t'] => optK (S.sl t) fun e => optK (S.ty e) fun i => oneC (ev S st t x) fun d => oneC (ev S st t' y) fun s => copyS st.look i d s Q
        | _, _ => False
      | .builtin .append => match c.args.toList, c.argTypes.toList with
        | [x, y], [t, t'] => chk (Nat.beq t t') (optK (S.sl t) fun e => optK (S.ty e) fun i => oneC (ev S st t x) fun a => oneC (ev S st t y) fun b => isMat st.look b (fun m nn ag e1 K1 ys => chk (Nat.ble 1 i.bytes && Nat.beq i.kd.n 1) (appM st.look lab e i a m nn ag e1 K1 ys Q)) <| optK (slData st.look b) fun d =>
            chk (Nat.ble 1 i.bytes && Nat.ble 1 i.kd.n) (if h : d.1 = i.kd then appS st.look lab e i a (castL h d.2.1) (litB b) d.2.2 Q else False))
        | _, _ => False
      | .value f => oneC (ev S st 0 f) fun g => match g with
        | .clo f cs => cond (S.clip f && cs.isEmpty) (clipS S st c.args.toList c.argTypes.toList Q) <| cond (S.inl f && cs.isEmpty) (inlS S st c.args.toList c.argTypes.toList Q) <| mkOr (S.mkr f) (fun p => mkS S st lab p cs c.args.toList c.argTypes.toList Q) <| optK (S.ct f) fun ct => optK (decArgs (dec1 S st.look fuel) ct.A (evAll S st c.argTypes.toList c.args.toList)) fun p => optK (capsD (dec1 S st.look fuel) ct.C cs) fun q =>
            callS dr st.look lab ct p.1 q.1 (p.2 ++ q.2) Q
        | .d (.fn A R) g => optK (decArgs (dec1 S st.look fuel) A (evAll S st c.argTypes.toList c.args.toList)) fun p =>
            chk (R.flat || noLn st.look p.2) (giv dr ((show A.T → (R.T → Prop) → Prop from g) p.1) fun r => Q (retv R r) (if R.flat then [] else frz st.look p.2))
        | _ => False
      | _ => False
  | _ => False
end
end Go.GX
set_option linter.unusedVariables false
namespace Go.GX
open Go.RowKit Go.Shelf Go.Proofs

inductive Item where
  | t (t : Nat) (K : Kd)
  | row (t l : Nat) (nn : Bool) (e : TypeId) (K : Kd)
  | cell (l : Nat) (ty : TypeId) (K : Kd)
  | crow (l : Nat) (ty : TypeId) (m : Nat) (nn : Bool) (e : TypeId) (K : Kd)
  | lrow (l : Nat) (nn : Bool) (e : TypeId) (K : Kd)
  | mat (t l vl : Nat) (nn : Bool) (e : TypeId) (ag : Bool) (e1 : TypeId) (K1 : Kd)
  | lmat (l vl : Nat) (nn : Bool) (e : TypeId) (ag : Bool) (e1 : TypeId) (K1 : Kd)

def Item.K : Item → Kd
  | .t _ K => K
  | .row _ _ _ e K => .sl e K
  | .cell _ _ K => K
  | .crow _ _ _ _ e K => .sl e K
  | .lrow _ _ e K => .sl e K
  | .mat _ _ _ _ e _ e1 K1 => .sl e (.sl e1 K1)
  | .lmat _ _ _ e _ e1 K1 => .sl e (.sl e1 K1)

abbrev Items := List Item

def Items.G : Items → Type
  | [] => Unit
  | it :: r => it.K.T × Items.G r

def Items.Cur : Items → Type → Type
  | [], α => α
  | it :: r, α => it.K.T → Items.Cur r α

def Items.app {α : Type} : (its : Items) → its.Cur α → its.G → α
  | [], f, _ => f
  | _ :: r, f, g => Items.app r (f g.1) g.2

def Items.All : (its : Items) → (its.G → Prop) → Prop
  | [], p => p ()
  | it :: r, p => ∀ x : it.K.T, Items.All r fun g => p (x, g)

def Items.tm : (its : Items) → its.G → Nat → Option SV
  | [], _, _ => none
  | .t t K :: r, g, n => cond (Nat.beq n t) (some (mkv K g.1)) (Items.tm r g.2 n)
  | .row t l _ _ _ :: r, g, n => cond (Nat.beq n t) (some (.mk false [.own l])) (Items.tm r g.2 n)
  | .cell _ _ _ :: r, g, n => Items.tm r g.2 n
  | .crow _ _ _ _ _ _ :: r, g, n => Items.tm r g.2 n
  | .lrow _ _ _ _ :: r, g, n => Items.tm r g.2 n
  | .mat t l _ _ _ _ _ _ :: r, g, n => cond (Nat.beq n t) (some (.mk false [.own l])) (Items.tm r g.2 n)
  | .lmat _ _ _ _ _ _ _ :: r, g, n => Items.tm r g.2 n

def Items.hp (c : Nat) (h : Nat → Option (HE × Nat)) : (its : Items) → its.G → Nat → Option (HE × Nat)
  | [], _, n => h n
  | .t _ _ :: r, g, n => Items.hp c h r g.2 n
  | .row _ l nn e K :: r, g, n => cond (Nat.beq n l) (some (.row nn e K g.1, c)) (Items.hp c h r g.2 n)
  | .cell l ty K :: r, g, n => cond (Nat.beq n l) (some (.box true ty (K.fl g.1), c)) (Items.hp c h r g.2 n)
  | .crow l ty m nn e K :: r, g, n => cond (Nat.beq n l) (some (.box true ty [.own m], c)) (cond (Nat.beq n m) (some (.row nn e K g.1, c)) (Items.hp c h r g.2 n))
  | .lrow l nn e K :: r, g, n => cond (Nat.beq n l) (some (.row nn e K g.1, c)) (Items.hp c h r g.2 n)
  | .mat _ l vl nn e ag e1 K1 :: r, g, n => cond (Nat.beq n l) (some (.mat nn e ag e1 K1 g.1 none vl, c)) (cond (Nat.beq n vl) none (Items.hp c h r g.2 n))
  | .lmat l vl nn e ag e1 K1 :: r, g, n => cond (Nat.beq n l) (some (.mat nn e ag e1 K1 g.1 none vl, c)) (cond (Nat.beq n vl) none (Items.hp c h r g.2 n))

def ownOf : SV → List Nat
  | .mk false [.own l] => [l]
  | _ => []

def cellOf (h : Option HE) : SV :=
  match h with
  | some (.box _ _ [c]) => .mk false [c]
  | _ => .any

def Items.gone (st : St) : Items → List Nat
  | [] => []
  | .row t _ _ _ _ :: r => ownOf (st.tm t) ++ Items.gone st r
  | .mat t _ _ _ _ _ _ _ :: r => ownOf (st.tm t) ++ Items.gone st r
  | .crow l _ _ _ _ _ :: r => ownOf (cellOf (st.look l)) ++ Items.gone st r
  | _ :: r => Items.gone st r

def Items.labs : Items → List Nat
  | [] => []
  | .t _ _ :: r => Items.labs r
  | .row _ l _ _ _ :: r => l :: Items.labs r
  | .cell l _ _ :: r => l :: Items.labs r
  | .crow l _ m _ _ _ :: r => l :: m :: Items.labs r
  | .lrow l _ _ _ :: r => l :: Items.labs r
  | .mat _ l vl _ _ _ _ _ :: r => l :: vl :: Items.labs r
  | .lmat l vl _ _ _ _ _ :: r => l :: vl :: Items.labs r

def nodupL : List Nat → Bool
  | [] => true
  | l :: r => !memL l r && nodupL r

def Items.ok (st : St) (wr : List Nat) : Items → Bool
  | [] => true
  | .t t _ :: r => memL t wr && Items.ok st wr r
  | .row t l _ _ _ :: r => memL t wr && !memL l st.dom && Items.ok st wr r
  | .cell l _ _ :: r => memL l st.dom && Items.ok st wr r
  | .crow l _ m _ _ _ :: r => memL l st.dom && !memL m st.dom && Items.ok st wr r
  | .lrow l _ _ _ :: r => memL l st.dom && Items.ok st wr r
  | .mat t l vl _ _ _ _ _ :: r => memL t wr && !memL l st.dom && !memL vl st.dom && Items.ok st wr r
  | .lmat l vl _ _ _ _ _ :: r => memL l st.dom && !memL vl st.dom && Items.ok st wr r

def Items.base (its : Items) (st : St) : Nat → Option (HE × Nat) := fun l => cond (memL l (its.gone st)) none (st.hp l)

def Items.head (its : Items) (st : St) (wr : List Nat) (g : its.G) : St where
  n := st.n
  tm := fun n => match its.tm g n with
    | some v => v
    | none => cond (memL n wr) .any (st.tm n)
  hp := its.hp (st.cnt + 1) (its.base st) g
  cnt := st.cnt + 1
  dom := its.labs ++ st.dom

def Items.kept (its : Items) (st : St) (l : Nat) : Bool := !memL l its.labs && (its.base st l).isSome

def rowK (kept : Nat → Bool) (look : Nat → Option HE) (seen : List Nat) (v : SV) (nn : Bool) (e : TypeId) (K : Kd) (k : List K.T → List Nat → Prop) : Prop :=
  match v with
  | .mk false [.own l] => match look l with
    | some (.row nn' e' K' xs) => chk (Nat.beq e' e && (!nn || nn') && !memL l seen && !kept l) (if h : K' = K then k (castL h xs) (l :: seen) else False)
    | _ => False
  | .mk false [.nl _ _] => chk (!nn && Nat.ble 1 K.n) (k [] seen)
  | _ => False

def matK (kept : Nat → Bool) (look : Nat → Option HE) (seen : List Nat) (v : SV) (nn : Bool) (e : TypeId) (ag : Bool) (e1 : TypeId) (K1 : Kd) (k : List (List K1.T) → List Nat → Prop) : Prop :=
  match v with
  | .mk false [.own l] => match look l with
    | some (.mat nn' e' ag' e1' K1' xs none _) => chk (Nat.beq e' e && (ag == ag') && Nat.beq e1' e1 && (!nn || nn') && !memL l seen && !kept l) (if h : K1' = K1 then k (xs.map (castL h)) (l :: seen) else False)
    | _ => False
  | .mk false [.nl _ _] => chk (!nn && K1.flat && Nat.ble 1 K1.n) (k [] seen)
  | _ => False

def Items.get (S : Stat) (kept : Nat → Bool) (st : St) : (its : Items) → List Nat → (its.G → Prop) → Prop
  | [], _, k => k ()
  | .t t K :: r, seen, k => match st.tm t with
    | .mk a cs => chk (a == K.isAgg && K.arg) (optK (decs (dec1 S st.look fuel) K cs) fun p => chk (p.2.1.isEmpty && p.2.2.isEmpty) (Items.get S kept st r seen fun g => k (p.1, g)))
    | _ => False
  | .row t l nn e K :: r, seen, k => rowK kept st.look seen (st.tm t) nn e K fun xs seen => Items.get S kept st r seen fun g => k (xs, g)
  | .cell l ty K :: r, seen, k => match st.look l with
    | some (.box true ty' cs) => chk (Nat.beq ty' ty) (optK (decs (dec1 S st.look fuel) K cs) fun p => chk (p.2.1.isEmpty && p.2.2.isEmpty) (Items.get S kept st r seen fun g => k (p.1, g)))
    | _ => False
  | .crow l ty m nn e K :: r, seen, k => match st.look l with
    | some (.box true ty' [c]) => chk (Nat.beq ty' ty) (rowK kept st.look seen (.mk false [c]) nn e K fun xs seen => Items.get S kept st r seen fun g => k (xs, g))
    | _ => False
  | .lrow l nn e K :: r, seen, k => rowK kept st.look seen (.mk false [.own l]) nn e K fun xs seen => Items.get S kept st r seen fun g => k (xs, g)
  | .mat t _ _ nn e ag e1 K1 :: r, seen, k => matK kept st.look seen (st.tm t) nn e ag e1 K1 fun xs seen => Items.get S kept st r seen fun g => k (xs, g)
  | .lmat l _ nn e ag e1 K1 :: r, seen, k => matK kept st.look seen (.mk false [.own l]) nn e ag e1 K1 fun xs seen => Items.get S kept st r seen fun g => k (xs, g)

def sameStamp (a b : Option (HE × Nat)) : Bool :=
  match a, b with
  | some (_, m), some (_, n) => Nat.beq m n
  | _, none => true
  | none, some _ => false

def keptOK (labs : List Nat) (st0 st' : St) : List Nat → Bool
  | [] => true
  | l :: r => (memL l labs || sameStamp (st'.hp l) (st0.hp l)) && keptOK labs st0 st' r

def codeWrites : Code → List Nat
  | .region _ ops _ => ops.toList.filterMap (·.dst)
  | .seq a b => codeWrites a ++ codeWrites b
  | .cond _ a b => codeWrites a ++ codeWrites b
  | .block _ c => codeWrites c
  | .loop c => codeWrites c
  | .rangeFunc _ ps a b => ps.toList ++ codeWrites a ++ codeWrites b
  | .scope c => codeWrites c
  | _ => []

inductive Xt where
  | norm
  | exit (id : Nat)
  | ret

section
variable (S : Stat)

def yieldS (st : St) (ops : List Oper) (j : Nat) (k : Nat → Bool → Prop) : Prop :=
  match ops[j]? with
  | some o => match o.dst with
    | some d => chk (Nat.blt d st.n) (oneB (st.tm d) (k d))
    | none => False
  | none => False

def undS (st : St) (ops : List Oper) (j : Nat) : Option Nat :=
  match ops[j]? with
  | some o => match o.dst with
    | some d => match st.tm d with
      | .tup [] => cond (Nat.blt d st.n) (some d) none
      | _ => none
    | none => none
  | none => none

def dstOK (n : Nat) : Option Nat → Bool
  | some d => Nat.blt d n
  | none => true

def vcOps (all : List Oper) (lab : Nat) : List Oper → Nat → St → (St → Prop) → Prop
  | [], _, st, K => K st
  | o :: rest, i, st, K =>
    chk (freshL (lab + i) st.dom && dstOK st.n o.dst)
    (match o.guard with
    | none => sem S false st (lab + i) o fun sv u => vcOps all lab rest (i + 1) ((st.upds u).put o.dst sv) K
    | some (j, want) => match undS st all j with
      | some _ => vcOps all lab rest (i + 1) (st.put o.dst (.tup [])) K
      | none => yieldS st all j fun d b =>
        gdS b want (sem S false (st.put (some d) (boolSV want)) (lab + i) o fun sv u => vcOps all lab rest (i + 1) (((st.put (some d) (boolSV want)).upds u).put o.dst sv) K)
          (vcOps all lab rest (i + 1) ((st.put (some d) (boolSV (!want))).put o.dst (.tup [])) K))

def opTmps (o : Oper) : List Nat := o.op.operands.toList.filterMap fun
  | .tmp t => some t
  | _ => none

def Cap.labs : Cap → List Nat
  | .l m => [m]
  | .d _ _ _ => []
def SC.labs : SC → List Nat
  | .own l => [l]
  | .ptr l _ => [l]
  | .ep l _ _ _ => [l]
  | .inn l _ _ => [l]
  | .iep l _ _ _ _ _ => [l]
  | .clo _ caps => caps.flatMap Cap.labs
  | .sub l _ _ _ => [l]
  | .pt l _ _ => [l]
  | _ => []
def SV.labs : SV → List Nat
  | .any => []
  | .mk _ cs => cs.flatMap SC.labs
  | .tup l => l.flatMap fun q => q.2.flatMap SC.labs

def reachL (look : Nat → Option HE) : Nat → List Nat → List Nat
  | 0, ls => ls
  | n + 1, ls => ls ++ reachL look n (ls.flatMap fun l => match look l with
    | some (.box _ _ cs) => cs.flatMap SC.labs
    | _ => [])

def St.mask (st : St) (rd mem dom : List Nat) : St :=
  ⟨st.n, fun t => cond (memL t rd) (st.tm t) .any, fun l => cond (memL l mem) ((st.look l).map fun h => (h, 0)) none, 0, dom⟩

structure Rec where
  anc : Nat
  rd : List Nat
  wr : Option Nat
  mem : List Nat
  tch : List Nat

def apartL : List Nat → List Nat → Bool
  | [], _ => true
  | l :: r, k => !memL l k && apartL r k

def apartO (d : Option Nat) (rd : List Nat) : Bool :=
  match d with
  | some t => !memL t rd
  | none => true

def Rec.apart (lab i j : Nat) (x y : Rec) : Bool :=
  apartO x.wr (y.wr.toList ++ y.rd) && apartO y.wr x.rd && apartL x.tch (y.tch ++ y.mem) && apartL y.tch x.mem && freshL (lab + i) y.tch && freshL (lab + j) x.tch

def Rec.apartAll (lab j : Nat) (y : Rec) : Nat → List Rec → Bool
  | _, [] => true
  | i, x :: r => (Nat.testBit y.anc i || x.apart lab i j y) && Rec.apartAll lab j y (i + 1) r

def ancGo (rs : List Rec) : List Edge → Nat → Nat
  | [], m => m
  | e :: r, m => ancGo rs r (cond (Region.binds .any e) (m ||| (2 ^ e.on) ||| (match rs[e.on]? with
    | some x => x.anc
    | none => 0)) m)

def ancOf (rs : List Rec) (o : Oper) : Nat := ancGo rs o.after.toList 0

def edgesOK (i : Nat) (o : Oper) : Bool := o.after.toList.all fun e => !Region.binds .any e || Nat.blt e.on i

def noLnU : List (Nat × Option HE) → Bool
  | [] => true
  | (_, h) :: r => (match h with
    | some (.ln _ _ _) => false
    | _ => true) && noLnU r

def memOf (st : St) (o : Oper) : List Nat :=
  match o.op with
  | .move _ => []
  | .assign _ => []
  | _ => reachL st.look 3 ((opTmps o).flatMap fun t => (st.tm t).labs)

def anyRun0 (lab : Nat) (o : Oper) (i : Nat) (rs : List Rec) (st : St) (k : Rec → St → Prop) : Prop :=
  sem S true (st.mask (opTmps o) (memOf st o) []) (lab + i) o fun sv u =>
    chk (noLnU u && Rec.apartAll lab i ⟨ancOf rs o, opTmps o, o.dst, memOf st o, u.map (·.1)⟩ 0 rs) (k ⟨ancOf rs o, opTmps o, o.dst, memOf st o, u.map (·.1)⟩ ((st.upds u).put o.dst sv))

def anyRun (lab : Nat) (o : Oper) (i : Nat) (rs : List Rec) (st : St) (d : Nat) (k : Rec → St → Prop) : Prop :=
  sem S true (st.mask (opTmps o) (memOf st o) []) (lab + i) o fun sv u =>
    chk (noLnU u && Rec.apartAll lab i ⟨ancOf rs o, d :: opTmps o, o.dst, memOf st o, u.map (·.1)⟩ 0 rs) (k ⟨ancOf rs o, d :: opTmps o, o.dst, memOf st o, u.map (·.1)⟩ ((st.upds u).put o.dst sv))

def anySkip (lab : Nat) (o : Oper) (i : Nat) (rs : List Rec) (st : St) (d : Nat) (k : Rec → St → Prop) : Prop :=
  chk (Rec.apartAll lab i ⟨ancOf rs o, [d], o.dst, [], []⟩ 0 rs) (k ⟨ancOf rs o, [d], o.dst, [], []⟩ (st.put o.dst (.tup [])))

def vcAny (all : List Oper) (lab : Nat) : List Oper → Nat → List Rec → St → (St → Prop) → Prop
  | [], _, _, st, K => K st
  | o :: rest, i, rs, st, K =>
    chk (freshL (lab + i) st.dom && dstOK st.n o.dst && edgesOK i o)
    (match o.guard with
    | none => anyRun0 S lab o i rs st (fun x st => vcAny all lab rest (i + 1) (rs ++ [x]) st K)
    | some (j, want) => match undS st all j with
      | some d => anySkip lab o i rs st d fun x st => vcAny all lab rest (i + 1) (rs ++ [x]) st K
      | none => yieldS st all j fun d b =>
      gdS b want (anyRun S lab o i rs (st.put (some d) (boolSV want)) d fun x st => vcAny all lab rest (i + 1) (rs ++ [x]) st K)
        (anySkip lab o i rs (st.put (some d) (boolSV (!want))) d fun x st => vcAny all lab rest (i + 1) (rs ++ [x]) st K))

def Item.heapB : Item → Bool
  | .t _ _ => false
  | .row _ _ _ _ _ => false
  | .mat _ _ _ _ _ _ _ _ => false
  | _ => true

def noRF : Code → Bool
  | .rangeFunc _ _ _ _ => false
  | .seq a b => noRF a && noRF b
  | .cond _ a b => noRF a && noRF b
  | .block _ c => noRF c
  | .loop c => noRF c
  | .scope c => noRF c
  | _ => true

def flatPut (st : St) : (A : Kd) → A.T → List Nat → Option St
  | .pair A B, x, p :: r => cond (A.flat && A.arg) (flatPut (st.put (some p) (mkv A x.1)) B x.2 r) none
  | .unit, _, [] => some st
  | .int k, x, [p] => some (st.put (some p) (mkv (.int k) x))
  | .bool, x, [p] => some (st.put (some p) (mkv .bool x))
  | .str, x, [p] => some (st.put (some p) (mkv .str x))
  | .agg K, x, [p] => cond K.flat (some (st.put (some p) (mkv (.agg K) x))) none
  | _, _, _ => none

def lend (st : St) (L : Nat) (e : TypeId) (K : Kd) (xs : List K.T) : St :=
  { st with hp := updf st.hp L (some (.ln e K xs, st.cnt)), dom := L :: st.dom }

def roundSt (st : St) (L : Nat) (A : Kd) (x : A.T) (ps : List Nat) : Option St :=
  match A, x, ps with
  | .sl e K, x, [p] => cond (K.flat && Nat.ble 1 K.n) (some ((lend st L e K x).put (some p) (.mk false [.own L]))) none
  | A, x, ps => flatPut st A x ps

def strike (st : St) (L : Nat) : St := { st with hp := updf st.hp L none }
def backSt (st0 : St) (L : Nat) (st : St) : St := { strike st L with tm := st0.tm }

def seqC (c : SC) (k : (A : Kd) → List A.T → Prop) : Prop :=
  match c with
  | .d (.seq A) xs => k A xs
  | _ => False

def known (st : St) (c : Operand) (b : Bool) : St :=
  match c with
  | .tmp t => { st with tm := updf st.tm t (.mk false [.d .bool b]) }
  | _ => st

def firstR : Code → Nat
  | .region id _ _ => id
  | .seq a _ => firstR a
  | _ => 0

def thruK (K : Xt → St → Prop) (k : St → Prop) (x : Xt) (st : St) : Prop :=
  match x with
  | .norm => k st
  | .exit i => K (.exit i) st
  | .ret => K .ret st

def joinS (its : Items) (st : St) (wr : List Nat) (run : (St → Prop) → Prop) (K : St → Prop) : Prop :=
  match its with
  | [] => run K
  | i :: r => chk (nodupL (Items.labs (i :: r)) && Items.ok st wr (i :: r)) <| ∃ I : Items.Cur (i :: r) Prop, (run fun st' => chk (keptOK (Items.labs (i :: r)) st st' (Items.labs (i :: r) ++ st.dom)) <| Items.get S (Items.kept (i :: r) st) st' (i :: r) [] fun g => Items.app (i :: r) I g) ∧
      Items.All (i :: r) fun g => Items.app (i :: r) I g → K (Items.head (i :: r) st wr g)

def vc (an : Nat → Items) : Code → St → (Xt → St → Prop) → Prop
  | .skip, st, K => K .norm st
  | .region id ops false, st, K => joinS S (an (1000000 + id)) st (ops.toList.filterMap (·.dst)) (vcOps S ops.toList (id * 100) ops.toList 0 st) (K .norm)
  | .region id ops true, st, K => joinS S (an (1000000 + id)) st (ops.toList.filterMap (·.dst)) (vcAny S ops.toList (id * 100) ops.toList 0 [] st) (K .norm)
  | .seq a b, st, K => vc an a st fun x st' => match x with
    | .norm => vc an b st' K
    | .exit i => K (.exit i) st'
    | .ret => K .ret st'
  | .cond c t e, st, K => match an (2000000 + firstR t) with
    | [] => oneB (ev S st 0 c) fun b => cnd b (vc an t (known st c true) K) (vc an e (known st c false) K)
    | i :: r => joinS S (i :: r) st (codeWrites t ++ codeWrites e) (fun k => oneB (ev S st 0 c) fun b => cnd b (vc an t (known st c true) (thruK K k)) (vc an e (known st c false) (thruK K k))) (K .norm)
  | .block id (.loop body), st, K =>
    chk (nodupL (an id).labs && (an id).ok st (codeWrites body)) <| ∃ (I : (an id).Cur Prop) (μ : (an id).Cur Nat), (an id).get S ((an id).kept st) st [] (fun g => (an id).app I g) ∧
      (an id).All fun g => (an id).app I g → vc an body ((an id).head st (codeWrites body) g) fun x st' => match x with
        | .norm => chk (keptOK (an id).labs ((an id).head st (codeWrites body) g) st' ((an id).labs ++ st.dom)) <| (an id).get S ((an id).kept st) st' [] fun g' => (an id).app I g' ∧ (an id).app μ g' < (an id).app μ g
        | .exit i => cond (Nat.beq i id) (K .norm st') (K (.exit i) st')
        | .ret => K .ret st'
  | .block id (.rangeFunc f ps asg body), st, K =>
    chk (nodupL (an id).labs && (an id).ok st [] && List.all (an id) Item.heapB && noRF asg && noRF body && ps.toList.all (fun p => Nat.blt p st.n) && !memL (id * 100 + 90) ((an id).labs ++ st.dom)) <|
    oneC (ev S st 0 f) fun c => seqC c fun A xs =>
      ∃ I : List A.T → (an id).Cur Prop, (an id).get S ((an id).kept st) st [] (fun g => (an id).app (I []) g) ∧
        (∀ pre x rest, xs = pre ++ x :: rest → (an id).All fun g => (an id).app (I pre) g → optK (roundSt ((an id).head st [] g) (id * 100 + 90) A x ps.toList) fun st1 =>
          vc an asg st1 fun y st2 => match y with
            | .norm => vc an body st2 fun z st3 => chk (sameStamp (st3.hp (id * 100 + 90)) (st1.hp (id * 100 + 90)) && noLn (strike st3 (id * 100 + 90)).look st3.dom) <| match z with
              | .norm => chk (keptOK (an id).labs st1 st3 ((an id).labs ++ st.dom)) ((an id).get S ((an id).kept st) (backSt st (id * 100 + 90) st3) [] fun g' => (an id).app (I (pre ++ [x])) g')
              | .exit i => cond (Nat.beq i id) (K .norm (backSt st (id * 100 + 90) st3)) (K (.exit i) (backSt st (id * 100 + 90) st3))
              | .ret => K .ret (backSt st (id * 100 + 90) st3)
            | _ => False) ∧
        (an id).All fun g => (an id).app (I xs) g → K .norm ((an id).head st [] g)
  | .block id c, st, K => vc an c st fun x st' => match x with
    | .norm => K .norm st'
    | .exit i => cond (Nat.beq i id) (K .norm st') (K (.exit i) st')
    | .ret => K .ret st'
  | .exit id, st, K => K (.exit id) st
  | .ret, st, K => K .ret st
  | _, _, _ => False

def argsSV : (K : Kd) → K.T → List SV
  | .unit, _ => []
  | .pair A B, x => mkv A x.1 :: argsSV B x.2
  | .agg K, x => [mkv (.agg K) x]
  | .int k, x => [mkv (.int k) x]
  | .bool, x => [mkv .bool x]
  | .str, x => [mkv .str x]
  | .sl e K, x => [mkv (.sl e K) x]
  | .nsl e K, x => [mkv (.nsl e K) x]
  | .fn A R, x => [mkv (.fn A R) x]
  | .ptr t K, x => [mkv (.ptr t K) x]
  | .seq A, x => [mkv (.seq A) x]

def tmOf : List SV → Nat → SV
  | [], _ => .any
  | v :: _, 0 => v
  | _ :: r, n + 1 => tmOf r n

def resSV (st : St) : ResultVar → SV
  | .tmp t => st.tm t
  | .cell a t => match S.ty t with
    | some i => match st.tm a with
      | .mk false [c] => match cellsAt st.look c with
        | some cs => cond (Nat.ble i.kd.n cs.length) (.mk i.kd.isAgg (cs.take i.kd.n)) .any
        | none => .any
      | _ => .any
    | none => .any

def decSlO (look : Nat → Option HE) (e : TypeId) (K : Kd) (c : SC) : Option (List K.T × List Nat) :=
  match c with
  | .nl _ _ => some ([], [])
  | .own l => match look l with
    | some (.row _ e' K' xs) => cond (Nat.beq e' e && K'.flat) (if h : K' = K then some (castL h xs, [l]) else none) none
    | some (.mat _ e' ag e1 K1 xs none _) => cond (Nat.beq e' e) (if h : elK ag e1 K1 = K then some (castL h (xs.map (elX ag e1 K1)), [l]) else none) none
    | _ => none
  | _ => none

def decsO (look : Nat → Option HE) : (K : Kd) → List SC → Option (K.T × List SC × List Nat)
  | .pair A B => fun cs => match decsO look A cs with
    | some (x, r, l) => match decsO look B r with
      | some (y, r', l') => some ((x, y), r', l ++ l')
      | none => none
    | none => none
  | .agg K => decsO look K
  | .sl e K => fun cs => match cs with
    | c :: r => (decSlO look e K c).map fun p => (p.1, r, p.2)
    | [] => none
  | .unit => fun cs => some ((), cs, [])
  | K => fun cs => match decs (dec1 S look fuel) K cs with
    | some (x, r, []) => some (x, r, [])
    | _ => none

def decArgO (look : Nat → Option HE) (K : Kd) (ss : List SV) : Option (K.T × List Nat) :=
  match ss with
  | [.mk a cs] => if (a == K.isAgg && K.arg) = true then (match decsO S look K cs with
    | some (x, [], l) => some (x, l)
    | _ => none) else none
  | _ => none

def decArgsO (look : Nat → Option HE) : (K : Kd) → List SV → Option (K.T × List Nat)
  | .unit => fun ss => match ss with
    | [] => some ((), [])
    | _ => none
  | .pair A B => fun ss => match ss with
    | .mk a cs :: r => if (a == A.isAgg && A.arg) = true then (match decsO S look A cs with
      | some (x, [], l) => match decArgsO look B r with
        | some (y, l') => some ((x, y), l ++ l')
        | none => none
      | _ => none) else none
    | _ => none
  | .agg K => decArgO S look (.agg K)
  | .int k => decArgO S look (.int k)
  | .bool => decArgO S look .bool
  | .str => decArgO S look .str
  | .sl e K => decArgO S look (.sl e K)
  | _ => fun _ => none

def decRes (st : St) (R : Kd) (rs : List SV) : Option (R.T × List Nat) := decArgs (dec1 S st.look fuel) R rs

def decFresh (st : St) (R : Kd) (rs : List SV) : Option R.T :=
  match rs with
  | [.mk false [.own l]] => match st.look l with
    | some (.row nn _ K' xs) => cond K'.flat (match R with
      | .sl _ K => if h : K' = K then some (castL h xs) else none
      | .nsl _ K => if h : K' = K then (if nn then some (some (castL h xs)) else none) else none
      | _ => none) none
    | _ => none
  | [.mk false [.nl _ _]] => match R with
    | .sl _ K => some ([] : List K.T)
    | .nsl _ K => some (isNone K)
    | _ => none
  | _ => none

def decEnd (own fresh : Bool) (st : St) (R : Kd) (rs : List SV) (Q : R.T → Prop) : Prop :=
  match own with
  | true => optK (decArgsO S st.look R rs) fun r => chk (nodupL r.2 && R.ownOK) (Q r.1)
  | false => match fresh with
  | true => optK (decFresh st R rs) fun r => Q r
  | false => optK (decRes S st R rs) fun r => Q r.1

def Kd.ar : Kd → Nat
  | .pair _ B => B.ar + 1
  | .unit => 0
  | _ => 1

def Kd.retOK : Kd → Bool
  | .pair _ .unit => false
  | _ => true

def vcFunc (own fresh : Bool) (an : Nat → Items) (fn : Func) (c : Code) (A C R : Kd) (x : A.T) (y : C.T) (Q : R.T → Prop) : Prop :=
  chk (Nat.ble (A.ar + C.ar) fn.ntmps && R.retOK) <| vc S an c { n := fn.ntmps, tm := tmOf (argsSV A x ++ argsSV C y), hp := fun _ => none, cnt := 0, dom := [] } fun e st =>
    match e with
    | .exit _ => False
    | .norm => decEnd S own fresh st R (fn.results.toList.map (resSV S st)) Q
    | .ret => decEnd S own fresh st R (fn.results.toList.map (resSV S st)) Q
end
end Go.GX

namespace Go.GX

def assoc {α : Type} : List (Nat × α) → Nat → Option α
  | [], _ => none
  | p :: r, n => cond (Nat.beq p.1 n) (some p.2) (assoc r n)
def assoc2 {α : Type} : List ((Nat × Nat) × α) → Nat → Nat → Option α
  | [], _, _ => none
  | p :: r, n, m => cond (Nat.beq p.1.1 n && Nat.beq p.1.2 m) (some p.2) (assoc2 r n m)
def Stat.of (tyT : List (Nat × TI)) (slT : List (Nat × Nat)) (flT : List ((Nat × Nat) × (Nat × Nat))) (eqT : List (Nat × Nat)) (mkT : List (Nat × (Nat × Nat))) (glT : List (Nat × GV)) (ctT : List (Nat × Ct)) (inls lits : List Nat) : Stat :=
  ⟨assoc tyT, assoc slT, fun t f => cond (Nat.blt f 1000000) (assoc2 flT t f) none, assoc glT, assoc ctT, assoc eqT, assoc mkT, fun l => memL l lits, fun f => memL f inls && Nat.blt f 1000000, fun f => memL (f + 1000000) inls, fun t => assoc2 flT t 1000000⟩
end Go.GX
namespace Go.GX
def bodyOf (f : Func) : Code := match f.body with | some c => c | none => .skip
end Go.GX
namespace Go.Proofs.Tw
open Go.GX
abbrev k1 : Kd := .fn (.unit) (.unit)
abbrev k2 : Kd := .int .i64
abbrev k3 : Kd := .int .i64
abbrev k4 : Kd := .bool
abbrev k5 : Kd := .int .u8
abbrev k6 : Kd := .int .u8
abbrev k7 : Kd := .agg (.pair (k2) (.pair (k3) (.pair (k4) (k6))))
abbrev k8 : Kd := .agg (.pair (k2) (.pair (k3) (.pair (k4) (k6))))
abbrev k9 : Kd := .str
abbrev k10 : Kd := .str
abbrev k11 : Kd := .str
abbrev k12 : Kd := .int .u64
abbrev k13 : Kd := .agg (.pair (k9) (k12))
abbrev k14 : Kd := .agg (.pair (k9) (k12))
abbrev k21 : Kd := .int .i32
abbrev k22 : Kd := .sl 3 k3
abbrev k38 : Kd := .agg (.pair (k3) (k3))
abbrev k23 : Kd := .sl 38 k38
abbrev k24 : Kd := .agg (.pair (k22) (.pair (k22) (k23)))
abbrev k25 : Kd := .agg (.pair (k22) (.pair (k22) (k23)))
abbrev k81 : Kd := .agg (k22)
abbrev k26 : Kd := .sl 81 k81
abbrev k27 : Kd := .fn (.pair (k25) (k26)) (k4)
abbrev k28 : Kd := .fn (.unit) (k4)
abbrev k29 : Kd := .fn (k25) (k25)
abbrev k30 : Kd := .fn (k26) (k26)
abbrev k31 : Kd := .int .i64
abbrev k32 : Kd := .fn (.pair (k25) (k26)) (k31)
abbrev k34 : Kd := .fn (.pair (k25) (k26)) (.pair (k23) (k31))
abbrev k35 : Kd := .fn (.pair (k25) (k25)) (k4)
abbrev k36 : Kd := .fn (.pair (k26) (k26)) (k4)
abbrev k37 : Kd := .agg (.pair (k3) (k3))
abbrev k40 : Kd := .fn (.pair (k25) (.pair (k26) (.pair (k3) (k22)))) (.pair (k38) (k4))
abbrev k41 : Kd := .fn (.pair (k23) (k23)) (k4)
abbrev k43 : Kd := .fn (.pair (k25) (k26)) (.pair (k4) (.pair (k4) (k31)))
abbrev k45 : Kd := .fn (.pair (k25) (k26)) (.pair (k22) (k31))
abbrev k46 : Kd := .fn (.pair (k25) (.pair (k26) (k22))) (k4)
abbrev k47 : Kd := .fn (.pair (k22) (k22)) (k4)
abbrev k48 : Kd := .fn (.pair (k25) (k26)) (k22)
abbrev k62 : Kd := .agg (.pair (k3) (k3))
abbrev k49 : Kd := .sl 62 k62
abbrev k51 : Kd := .fn (.pair (k25) (k26)) (.pair (k49) (k31))
abbrev k52 : Kd := .fn (.pair (k25) (k26)) (k49)
abbrev k53 : Kd := .fn (.pair (k49) (k49)) (k4)
abbrev k54 : Kd := .sl 23 k23
abbrev k56 : Kd := .fn (.pair (k25) (.pair (k26) (k22))) (.pair (k54) (k31))
abbrev k57 : Kd := .fn (.pair (k25) (.pair (k26) (k22))) (k31)
abbrev k58 : Kd := .fn (.pair (k25) (.pair (k26) (.pair (k22) (.pair (k3) (k3))))) (k38)
abbrev k59 : Kd := .fn (.pair (k25) (.pair (k26) (k22))) (.pair (k49) (k31))
abbrev k60 : Kd := .fn (.pair (k25) (.pair (k26) (k22))) (k49)
abbrev k61 : Kd := .agg (.pair (k3) (k3))
abbrev k64 : Kd := .fn (.pair (k25) (k26)) (.pair (k62) (.pair (k3) (k31)))
abbrev k66 : Kd := .fn (.pair (k25) (k26)) (.pair (k62) (.pair (k3) (k4)))
abbrev k67 : Kd := .agg (.pair (k5) (.pair (k5) (.pair (k5) (k5))))
abbrev k68 : Kd := .agg (.pair (k5) (k5))
abbrev k69 : Kd := .sl 67 k67
abbrev k70 : Kd := .agg (.pair (k67) (.pair (k68) (k69)))
abbrev k71 : Kd := .agg (.pair (k67) (.pair (k68) (k69)))
abbrev k72 : Kd := .fn (.unit) (k25)
abbrev k74 : Kd := .agg (.pair (k3) (k3))
abbrev k73 : Kd := .sl 74 k74
abbrev k76 : Kd := .fn (k25) (.pair (k26) (.pair (k73) (k74)))
abbrev k77 : Kd := .fn (.pair (k3) (k38)) (k4)
abbrev k78 : Kd := .agg (.pair (k4) (.pair (k4) (.pair (k4) (k4))))
abbrev k79 : Kd := .agg (.pair (k3) (.pair (k3) (.pair (k3) (k3))))
abbrev k80 : Kd := .agg (k22)
abbrev k82 : Kd := .fn (k71) (k4)
abbrev k83 : Kd := .sl 68 k68
abbrev k84 : Kd := .fn (.pair (k25) (.pair (k26) (k49))) (k4)
abbrev k85 : Kd := .fn (.pair (k49) (k3)) (k4)
abbrev k86 : Kd := .int .u64
abbrev k87 : Kd := .fn (.pair (k71) (.pair (k83) (k5))) (k4)
abbrev k89 : Kd := .fn (k25) (.pair (k26) (.pair (k73) (k22)))
abbrev k90 : Kd := .fn (.pair (k71) (k68)) (k4)
abbrev k91 : Kd := .fn (.pair (k71) (.pair (k68) (k5))) (k4)
abbrev k93 : Kd := .fn (.pair (k25) (k26)) (.pair (k3) (.pair (k22) (k31)))
abbrev k94 : Kd := .sl 54 k54
abbrev k95 : Kd := .sl 22 k22
abbrev k96 : Kd := .fn (.pair (k3) (k22)) (k95)
abbrev k97 : Kd := .fn (k22) (k3)
abbrev k98 : Kd := .fn (.pair (k71) (k5)) (k4)
abbrev k99 : Kd := .fn (.pair (k25) (.pair (k81) (k81))) (.pair (k4) (.pair (k4) (k31)))
abbrev k101 : Kd := .fn (.pair (k25) (.pair (k81) (k81))) (.pair (k4) (k4))
abbrev k102 : Kd := .fn (.pair (k25) (.pair (k81) (k81))) (k4)
abbrev k104 : Kd := .fn (.pair (k25) (k26)) (.pair (k22) (.pair (k22) (k31)))
abbrev k105 : Kd := .fn (.pair (k25) (k26)) (k95)
abbrev k106 : Kd := .fn (.unit) (k26)
abbrev k107 : Kd := .fn (.pair (k3) (k3)) (k38)
abbrev k108 : Kd := .fn (.pair (k3) (.pair (k3) (k22))) (k4)
abbrev k109 : Kd := .fn (k38) (k4)
abbrev k110 : Kd := .fn (.pair (k23) (k109)) (k4)
abbrev k112 : Kd := .fn (k81) (k4)
abbrev k111 : Kd := .fn (.pair (k26) (k112)) (k4)
abbrev k113 : Kd := .agg (.pair (k25) (k26))
abbrev k114 : Kd := .agg (.pair (k25) (k26))
abbrev k116 : Kd := .fn (.pair (k25) (k26)) (.pair (k114) (k31))
abbrev k118 : Kd := .fn (k3) (k4)
abbrev k117 : Kd := .fn (.pair (k3) (k118)) (k38)
abbrev k119 : Kd := .fn (.pair (k3) (.pair (k3) (k3))) (k4)
abbrev k120 : Kd := .fn (.pair (k22) (k3)) (k4)
abbrev k121 : Kd := .fn (.pair (k25) (.pair (k26) (.pair (k3) (.pair (k22) (k3))))) (k4)
abbrev k122 : Kd := .fn (k118) (k4)
abbrev k123 : Kd := .seq (k22)
abbrev k124 : Kd := .fn (k3) (k123)
abbrev k125 : Kd := .fn (k22) (k118)
abbrev k126 : Kd := .fn (k22) (k22)
abbrev k127 : Kd := .fn (k3) (k95)
abbrev k128 : Kd := .fn (.pair (k3) (k22)) (k22)
abbrev k130 : Kd := .fn (.pair (k3) (k22)) (k4)
abbrev k129 : Kd := .fn (k130) (k49)
abbrev k131 : Kd := .fn (.pair (k3) (k22)) (k49)
abbrev k138 : Kd := .sl 3 k3
abbrev k132 : Kd := .fn (k138) (k4)
abbrev k133 : Kd := .fn (.pair (k3) (.pair (k138) (k22))) (k23)
abbrev k134 : Kd := .fn (k95) (k4)
abbrev k135 : Kd := .fn (.pair (k25) (.pair (k26) (.pair (k3) (.pair (k22) (k22))))) (k95)
abbrev k136 : Kd := .sl 138 k138
abbrev k137 : Kd := .fn (.unit) (k136)
abbrev k139 : Kd := .fn (.pair (k38) (k3)) (k3)
abbrev k140 : Kd := .fn (k22) (k81)
abbrev k141 : Kd := .fn (.pair (k25) (.pair (k74) (k67))) (k22)
abbrev k142 : Kd := .fn (.pair (k136) (k132)) (k4)
abbrev k143 : Kd := .fn (.pair (k22) (k118)) (k4)
abbrev k144 : Kd := .fn (.pair (k23) (k109)) (k3)
abbrev k145 : Kd := .fn (.pair (k26) (k112)) (k3)
abbrev k146 : Kd := .fn (.pair (k38) (k38)) (k38)
abbrev k147 : Kd := .fn (.pair (k38) (k3)) (k38)
abbrev k148 : Kd := .fn (k22) (k4)
abbrev k149 : Kd := .fn (.pair (k3) (.pair (k3) (k22))) (k95)
abbrev k151 : Kd := .fn (.unit) (.pair (k22) (k4))
abbrev k152 : Kd := .seq (.pair (k3) (k3))
abbrev k153 : Kd := .seq (.pair (k3) (k3))
abbrev k154 : Kd := .fn (k22) (k153)
abbrev k155 : Kd := .seq (k138)
abbrev k156 : Kd := .fn (k3) (k155)
abbrev k157 : Kd := .fn (.unit) (k3)
abbrev k158 : Kd := .fn (k138) (k138)
abbrev k159 : Kd := .fn (.pair (k136) (k132)) (k3)
abbrev k160 : Kd := .fn (.pair (k22) (k118)) (k3)
abbrev k161 : Kd := .fn (.pair (k22) (k3)) (k3)
abbrev k162 : Kd := .fn (.pair (k3) (k3)) (k4)
abbrev k163 : Kd := .fn (.pair (k138) (k3)) (k138)
abbrev k165 : Kd := .fn (.pair (k86) (k86)) (.pair (k86) (k86))
abbrev k166 : Kd := .int .u32
abbrev k168 : Kd := .fn (.pair (k166) (k166)) (.pair (k166) (k166))
abbrev k169 : Kd := .int .u64
abbrev k171 : Kd := .fn (.pair (k169) (k169)) (.pair (k169) (k169))
abbrev k172 : Kd := .fn (.unit) (k9)
abbrev k178 : Kd := .int .u8
abbrev k179 : Kd := .int .u8
abbrev k182 : Kd := .int .i32
abbrev k183 : Kd := .int .i32
def tyT : List (Nat × TI) := [(1, ⟨k1, 8⟩), (2, ⟨k2, 8⟩), (3, ⟨k3, 8⟩), (4, ⟨k4, 1⟩), (5, ⟨k5, 1⟩), (6, ⟨k6, 1⟩), (7, ⟨k7, 24⟩), (8, ⟨k8, 24⟩), (9, ⟨k9, 16⟩), (10, ⟨k10, 16⟩), (11, ⟨k11, 16⟩), (12, ⟨k12, 8⟩), (13, ⟨k13, 24⟩), (14, ⟨k14, 24⟩), (21, ⟨k21, 4⟩), (22, ⟨k22, 24⟩), (23, ⟨k23, 24⟩), (24, ⟨k24, 72⟩), (25, ⟨k25, 72⟩), (26, ⟨k26, 24⟩), (27, ⟨k27, 8⟩), (28, ⟨k28, 8⟩), (29, ⟨k29, 8⟩), (30, ⟨k30, 8⟩), (31, ⟨k31, 8⟩), (32, ⟨k32, 8⟩), (34, ⟨k34, 8⟩), (35, ⟨k35, 8⟩), (36, ⟨k36, 8⟩), (37, ⟨k37, 16⟩), (38, ⟨k38, 16⟩), (40, ⟨k40, 8⟩), (41, ⟨k41, 8⟩), (43, ⟨k43, 8⟩), (45, ⟨k45, 8⟩), (46, ⟨k46, 8⟩), (47, ⟨k47, 8⟩), (48, ⟨k48, 8⟩), (49, ⟨k49, 24⟩), (51, ⟨k51, 8⟩), (52, ⟨k52, 8⟩), (53, ⟨k53, 8⟩), (54, ⟨k54, 24⟩), (56, ⟨k56, 8⟩), (57, ⟨k57, 8⟩), (58, ⟨k58, 8⟩), (59, ⟨k59, 8⟩), (60, ⟨k60, 8⟩), (61, ⟨k61, 16⟩), (62, ⟨k62, 16⟩), (64, ⟨k64, 8⟩), (66, ⟨k66, 8⟩), (67, ⟨k67, 4⟩), (68, ⟨k68, 2⟩), (69, ⟨k69, 24⟩), (70, ⟨k70, 32⟩), (71, ⟨k71, 32⟩), (72, ⟨k72, 8⟩), (73, ⟨k73, 24⟩), (74, ⟨k74, 16⟩), (76, ⟨k76, 8⟩), (77, ⟨k77, 8⟩), (78, ⟨k78, 4⟩), (79, ⟨k79, 32⟩), (80, ⟨k80, 24⟩), (81, ⟨k81, 24⟩), (82, ⟨k82, 8⟩), (83, ⟨k83, 24⟩), (84, ⟨k84, 8⟩), (85, ⟨k85, 8⟩), (86, ⟨k86, 8⟩), (87, ⟨k87, 8⟩), (89, ⟨k89, 8⟩), (90, ⟨k90, 8⟩), (91, ⟨k91, 8⟩), (93, ⟨k93, 8⟩), (94, ⟨k94, 24⟩), (95, ⟨k95, 24⟩), (96, ⟨k96, 8⟩), (97, ⟨k97, 8⟩), (98, ⟨k98, 8⟩), (99, ⟨k99, 8⟩), (101, ⟨k101, 8⟩), (102, ⟨k102, 8⟩), (104, ⟨k104, 8⟩), (105, ⟨k105, 8⟩), (106, ⟨k106, 8⟩), (107, ⟨k107, 8⟩), (108, ⟨k108, 8⟩), (109, ⟨k109, 8⟩), (110, ⟨k110, 8⟩), (111, ⟨k111, 8⟩), (112, ⟨k112, 8⟩), (113, ⟨k113, 96⟩), (114, ⟨k114, 96⟩), (116, ⟨k116, 8⟩), (117, ⟨k117, 8⟩), (118, ⟨k118, 8⟩), (119, ⟨k119, 8⟩), (120, ⟨k120, 8⟩), (121, ⟨k121, 8⟩), (122, ⟨k122, 8⟩), (123, ⟨k123, 8⟩), (124, ⟨k124, 8⟩), (125, ⟨k125, 8⟩), (126, ⟨k126, 8⟩), (127, ⟨k127, 8⟩), (128, ⟨k128, 8⟩), (129, ⟨k129, 8⟩), (130, ⟨k130, 8⟩), (131, ⟨k131, 8⟩), (132, ⟨k132, 8⟩), (133, ⟨k133, 8⟩), (134, ⟨k134, 8⟩), (135, ⟨k135, 8⟩), (136, ⟨k136, 24⟩), (137, ⟨k137, 8⟩), (138, ⟨k138, 24⟩), (139, ⟨k139, 8⟩), (140, ⟨k140, 8⟩), (141, ⟨k141, 8⟩), (142, ⟨k142, 8⟩), (143, ⟨k143, 8⟩), (144, ⟨k144, 8⟩), (145, ⟨k145, 8⟩), (146, ⟨k146, 8⟩), (147, ⟨k147, 8⟩), (148, ⟨k148, 8⟩), (149, ⟨k149, 8⟩), (151, ⟨k151, 8⟩), (152, ⟨k152, 8⟩), (153, ⟨k153, 8⟩), (154, ⟨k154, 8⟩), (155, ⟨k155, 8⟩), (156, ⟨k156, 8⟩), (157, ⟨k157, 8⟩), (158, ⟨k158, 8⟩), (159, ⟨k159, 8⟩), (160, ⟨k160, 8⟩), (161, ⟨k161, 8⟩), (162, ⟨k162, 8⟩), (163, ⟨k163, 8⟩), (165, ⟨k165, 8⟩), (166, ⟨k166, 4⟩), (168, ⟨k168, 8⟩), (169, ⟨k169, 8⟩), (171, ⟨k171, 8⟩), (172, ⟨k172, 8⟩), (178, ⟨k178, 1⟩), (179, ⟨k179, 1⟩), (182, ⟨k182, 4⟩), (183, ⟨k183, 4⟩)]
def slT : List (Nat × Nat) := [(22, 3), (23, 38), (26, 81), (49, 62), (54, 23), (69, 67), (73, 74), (83, 68), (94, 54), (95, 22), (136, 138), (138, 3)]
def flT : List ((Nat × Nat) × (Nat × Nat)) := [((7, 0), (0, 2)), ((7, 1), (1, 3)), ((7, 2), (2, 4)), ((7, 3), (3, 6)), ((8, 0), (0, 2)), ((8, 1), (1, 3)), ((8, 2), (2, 4)), ((8, 3), (3, 6)), ((13, 0), (0, 9)), ((13, 1), (1, 12)), ((14, 0), (0, 9)), ((14, 1), (1, 12)), ((24, 0), (0, 22)), ((24, 1), (1, 22)), ((24, 2), (2, 23)), ((25, 0), (0, 22)), ((25, 1), (1, 22)), ((25, 2), (2, 23)), ((37, 0), (0, 3)), ((37, 1), (1, 3)), ((38, 0), (0, 3)), ((38, 1), (1, 3)), ((61, 0), (0, 3)), ((61, 1), (1, 3)), ((62, 0), (0, 3)), ((62, 1), (1, 3)), ((70, 0), (0, 67)), ((70, 1), (4, 68)), ((70, 2), (6, 69)), ((71, 0), (0, 67)), ((71, 1), (4, 68)), ((71, 2), (6, 69)), ((80, 0), (0, 22)), ((81, 0), (0, 22)), ((113, 0), (0, 25)), ((113, 1), (3, 26)), ((114, 0), (0, 25)), ((114, 1), (3, 26)), ((67, 1000000), (4, 5)), ((68, 1000000), (2, 5)), ((74, 1000000), (2, 3)), ((78, 1000000), (4, 4)), ((79, 1000000), (4, 3))]
def eqT : List (Nat × Nat) := [(37, 2), (38, 2), (61, 2), (62, 2)]
def mkT : List (Nat × (Nat × Nat)) := [(80, (22, 113)), (86, (22, 116))]
def glT : List (Nat × GV) := [(0, ⟨38, k38, ((-1048576 : Int), (1048576 : Int))⟩)]
def inlT : List Nat := [97, 1000112]
def S0 (ct : List (Nat × Ct)) (lits : List Nat) : GX.Stat := Stat.of tyT slT flT eqT mkT glT ct inlT lits
end Go.Proofs.Tw
namespace Go.Proofs.Tw
open Go.GX

abbrev no_an : Nat → Items := fun _ => []

abbrev kI : Kd := .int .i64
abbrev kSp : Kd := .agg (.pair (.int .i64) (.int .i64))
abbrev kIs : Kd := .sl 3 kI
abbrev kSps : Kd := .sl 38 kSp
abbrev kG : Kd := .agg (.pair kIs (.pair kIs kSps))
abbrev kFan : Kd := .agg kIs
abbrev kFs : Kd := .sl 81 kFan
abbrev kB : Kd := .agg (.pair kG kFs)
abbrev arg1 (a : Kd) : Kd := .pair a .unit
abbrev arg2 (a b : Kd) : Kd := .pair a (.pair b .unit)
abbrev arg3 (a b c : Kd) : Kd := .pair a (.pair b (.pair c .unit))
abbrev res2 (a b : Kd) : Kd := .pair a (.pair b .unit)
abbrev res3 (a b c : Kd) : Kd := .pair a (.pair b (.pair c .unit))

abbrev Span := Int × Int
abbrev Gauge := List Int × List Int × List Span
abbrev Fans := List (List Int)

def Says {α β : Type} (f : α → (β → Prop) → Prop) (p : α → β) (l : List α) : Prop := ∀ x, x ∈ l → ∀ Q : β → Prop, Q (p x) → f x Q

def idxF {α : Type} (p : α → Bool) (xs : List α) : Int :=
  match xs.findIdx? p with
  | some i => (i : Int)
  | none => -1

def f123_wp : List Int × (Int → (Bool → Prop) → Prop) × Unit → Unit → (Int → Prop) → Prop := fun a _ Q => ∃ p : Int → Bool, Says a.2.1 p a.1 ∧ Q (idxF p a.1)
def f123_ct : Ct := ⟨arg2 kIs (.fn kI .bool), .unit, kI, f123_wp, false, false⟩
def idx_an : Nat → Items
  | 0 => [.t 8 kI]
  | _ => []
def f104_wp : List Int × (Int → (Bool → Prop) → Prop) × Unit → Unit → (Bool → Prop) → Prop := fun a _ Q => ∃ p : Int → Bool, Says a.2.1 p a.1 ∧ Q (a.1.any p)
def f104_ct : Ct := ⟨arg2 kIs (.fn kI .bool), .unit, .bool, f104_wp, false, false⟩
def f106_wp : List Span × (Span → (Bool → Prop) → Prop) × Unit → Unit → (Int → Prop) → Prop := fun a _ Q => ∃ p : Span → Bool, Says a.2.1 p a.1 ∧ Q (idxF p a.1)
def f106_ct : Ct := ⟨arg2 kSps (.fn kSp .bool), .unit, kI, f106_wp, false, false⟩
def f67_wp : List Span × (Span → (Bool → Prop) → Prop) × Unit → Unit → (Bool → Prop) → Prop := fun a _ Q => ∃ p : Span → Bool, Says a.2.1 p a.1 ∧ Q (a.1.any p)
def f67_ct : Ct := ⟨arg2 kSps (.fn kSp .bool), .unit, .bool, f67_wp, false, false⟩
def f107_wp : Fans × (List Int → (Bool → Prop) → Prop) × Unit → Unit → (Int → Prop) → Prop := fun a _ Q => ∃ p : List Int → Bool, Says a.2.1 p a.1 ∧ Q (idxF p a.1)
def f107_ct : Ct := ⟨arg2 kFs (.fn kFan .bool), .unit, kI, f107_wp, false, false⟩
def f69_wp : Fans × (List Int → (Bool → Prop) → Prop) × Unit → Unit → (Bool → Prop) → Prop := fun a _ Q => ∃ p : List Int → Bool, Says a.2.1 p a.1 ∧ Q (a.1.any p)
def f69_ct : Ct := ⟨arg2 kFs (.fn kFan .bool), .unit, .bool, f69_wp, false, false⟩

def inB (lo hi n : Int) : Bool := decide (lo ≤ n) && decide (n ≤ hi)
def f105_wp : Int → Int × Int × Unit → (Bool → Prop) → Prop := fun n c Q => Q (!inB c.1 c.2.1 n)
def f105_ct : Ct := ⟨kI, arg2 (.ptr 3 kI) (.ptr 3 kI), .bool, f105_wp, false, false⟩
def f66_wp : Int × Int × List Int × Unit → Unit → (Bool → Prop) → Prop := fun a _ Q => Q (a.2.2.1.all (inB a.1 a.2.1))
def f66_ct : Ct := ⟨arg3 kI kI kIs, .unit, .bool, f66_wp, false, false⟩
def isCopyF (s : Span) : Bool := inB (-100) 100 s.1 && inB (-100) 100 s.2 && decide (s.1 ≤ s.2)
def f65_wp : Span → Unit → (Bool → Prop) → Prop := fun s _ Q => Q (isCopyF s)
def f65_ct : Ct := ⟨kSp, .unit, .bool, f65_wp, false, false⟩
def f68_wp : Span → (Span → (Bool → Prop) → Prop) × Unit → (Bool → Prop) → Prop := fun s c Q => c.1 s fun r => Q (!r)
def f68_ct : Ct := ⟨kSp, arg1 (.ptr 109 (.fn kSp .bool)), .bool, f68_wp, false, false⟩
def fanF (n : Int) (f : List Int) : Bool := decide ((f.length : Int) = n) && f.all (inB 0 10000)
def f70_wp : List Int → Int × Unit → (Bool → Prop) → Prop := fun f c Q => Q (!fanF c.1 f)
def f70_ct : Ct := ⟨kFan, arg1 (.ptr 3 kI), .bool, f70_wp, false, false⟩
def checkF (g : Gauge) (fs : Fans) : Int :=
  if inB 1 4 g.1.length = false ∨ g.2.1.length ≠ g.1.length ∨ g.2.2.length ≠ g.1.length then 4
  else if g.1.all (inB 0 5) = false ∨ g.2.1.all (inB 0 100) = false ∨ g.2.2.all isCopyF = false then 2
  else if 5 < fs.length then 5
  else if fs.all (fanF g.1.length) = false then 3
  else 0
def f21_wp : Gauge × Fans × Unit → Unit → (Int → Prop) → Prop := fun a _ Q => Q (checkF a.1 a.2.1)
def f21_ct : Ct := ⟨arg2 kG kFs, .unit, kI, f21_wp, false, false⟩
def f71_wp : Gauge × Fans × Unit → Unit → ((Gauge × Fans) × Int × Unit → Prop) → Prop := fun a _ Q => Q ((a.1, a.2.1), checkF a.1 a.2.1, ())
def f71_ct : Ct := ⟨arg2 kG kFs, .unit, res2 kB kI, f71_wp, false, false⟩

structure VB (g : Gauge) (fs : Fans) : Prop where
  n1 : 1 ≤ g.1.length
  n4 : g.1.length ≤ 4
  mkl : g.2.1.length = g.1.length
  cp : g.2.2.length = g.1.length
  off : ∀ x, x ∈ g.1 → 0 ≤ x ∧ x ≤ 5
  make : ∀ x, x ∈ g.2.1 → 0 ≤ x ∧ x ≤ 100
  copy : ∀ x : Span, x ∈ g.2.2 → -100 ≤ x.1 ∧ x.1 ≤ x.2 ∧ x.2 ≤ 100
  f5 : fs.length ≤ 5
  fl : ∀ f, f ∈ fs → f.length = g.1.length
  fv : ∀ f, f ∈ fs → ∀ x, x ∈ f → 0 ≤ x ∧ x ≤ 10000

def anything : Span := (-1048576, 1048576)
def meetF (a b : Span) : Span := (mxI a.1 b.1, mnI a.2 b.2)
def aroundF (s : Span) (off : Int) : Span := (s.1 - off, s.2 + off)
def trulyF (g : Gauge) (fs : Fans) (m f : Nat) : Span := (((fs.getD f []).getD m 0) - g.1.getD m 0, ((fs.getD f []).getD m 0) + g.1.getD m 0)
def patF (g : Gauge) (fs : Fans) (m : Nat) (is : Int → Bool) : Span :=
  (List.range fs.length).foldl (fun (s : Span) (f : Nat) => if is (f : Int) then meetF s (aroundF (trulyF g fs m f) (g.2.1.getD m 0)) else s) anything

def f108_wp : Span × Span × Unit → Unit → (Span → Prop) → Prop := fun a _ Q => Q (meetF a.1 a.2.1)
def f108_ct : Ct := ⟨arg2 kSp kSp, .unit, kSp, f108_wp, false, false⟩
def f109_wp : Span × Int × Unit → Unit → (Span → Prop) → Prop := fun a _ Q => (-100000000 ≤ a.1.1 ∧ a.1.1 ≤ 100000000 ∧ -100000000 ≤ a.1.2 ∧ a.1.2 ≤ 100000000 ∧ -100000000 ≤ a.2.1 ∧ a.2.1 ≤ 100000000) ∧ Q (aroundF a.1 a.2.1)
def f109_ct : Ct := ⟨arg2 kSp kI, .unit, kSp, f109_wp, false, false⟩
def f77_wp : (Gauge × Fans) × Int × Int × Unit → Unit → (Span → Prop) → Prop := fun a _ Q => (VB a.1.1 a.1.2 ∧ 0 ≤ a.2.1 ∧ a.2.1 < a.1.1.1.length ∧ 0 ≤ a.2.2.1 ∧ a.2.2.1 < a.1.2.length) ∧ Q (trulyF a.1.1 a.1.2 a.2.1.toNat a.2.2.1.toNat)
def f77_ct : Ct := ⟨arg3 kB kI kI, .unit, kSp, f77_wp, false, false⟩

def SaysN (f : Int → (Bool → Prop) → Prop) (p : Int → Bool) (n : Nat) : Prop := ∀ k : Nat, k < n → ∀ Q : Bool → Prop, Q (p k) → f k Q
def f72_wp : (Gauge × Fans) × Int × (Int → (Bool → Prop) → Prop) × Unit → Unit → (Span → Prop) → Prop := fun a _ Q => ∃ p : Int → Bool, (VB a.1.1 a.1.2 ∧ 0 ≤ a.2.1 ∧ a.2.1 < a.1.1.1.length ∧ SaysN a.2.2.1 p a.1.2.length) ∧ Q (patF a.1.1 a.1.2 a.2.1.toNat p)
def f72_ct : Ct := ⟨arg3 kB kI (.fn kI .bool), .unit, kSp, f72_wp, false, false⟩
def f72_an : Nat → Items
  | 0 => [.t 13 kI, .cell 101 38 kSp]
  | _ => []
def f73_wp : Int → Unit → (Bool → Prop) → Prop := fun _ _ Q => Q true
def f73_ct : Ct := ⟨kI, .unit, .bool, f73_wp, false, false⟩
def okSp (s : Span) : Bool := decide (s.1 ≤ s.2)
def twinsF (g : Gauge) (fs : Fans) (p : Int → Bool) : Bool := (List.range g.1.length).all fun m => okSp (patF g fs m p)
def f78_wp : (Gauge × Fans) × (Int → (Bool → Prop) → Prop) × Unit → Unit → (Bool → Prop) → Prop := fun a _ Q => ∃ p : Int → Bool, (VB a.1.1 a.1.2 ∧ SaysN a.2.1 p a.1.2.length) ∧ Q (twinsF a.1.1 a.1.2 p)
def f78_ct : Ct := ⟨arg2 kB (.fn kI .bool), .unit, .bool, f78_wp, false, false⟩
def f78_an : Nat → Items
  | 0 => [.t 11 kI]
  | _ => []
def patternF (g : Gauge) (fs : Fans) : List Span × Int :=
  if checkF g fs ≠ 0 then ([], checkF g fs)
  else if fs.length = 0 then ([], 7)
  else if twinsF g fs (fun _ => true) then ((List.range g.1.length).map fun m => patF g fs m fun _ => true, 0)
  else ([], 9)
def f22_wp : Gauge × Fans × Unit → Unit → (List Span × Int × Unit → Prop) → Prop := fun a _ Q => Q ((patternF a.1 a.2.1).1, (patternF a.1 a.2.1).2, ())
def f22_ct : Ct := ⟨arg2 kG kFs, .unit, res2 kSps kI, f22_wp, false, false⟩
def f22_an : Nat → Items
  | 1 => [.t 26 kI, .row 4 5001 false 38 kSp]
  | _ => []
end Go.Proofs.Tw
set_option linter.unusedVariables false
set_option maxRecDepth 100000
namespace Go.Proofs.Tw
open Go Go.GX Go.Proofs

def V105 (n : Int) (lo : Int) (hi : Int) (Q : Bool → Prop) : Prop := cnd (decide (n < lo)) (Q true) (Q (decide (n > hi)))
theorem v105 (n : Int) (lo : Int) (hi : Int) (Q : Bool → Prop) : V105 n lo hi Q = vcFunc (S0 [] []) f105_ct.own f105_ct.fresh no_an Tryd.f105 (bodyOf Tryd.f105) f105_ct.A f105_ct.C f105_ct.R n (lo, hi, ()) Q := by kernel_rfl

def V123 (xs : List Int) (f : Int → (Bool → Prop) → Prop) (Q : Int → Prop) : Prop := List.length xs ≤ (9223372036854775807 : Nat) → ∃ (I : Int → Prop), ∃ (μ : Int → Nat), I (0 : Int) ∧ ∀ (x : Int), I x → cnd (decide (x < (↑(List.length xs) : Int))) ((0 : Int) ≤ x ∧ x < (↑(List.length xs) : Int) ∧ Prod.fst (f, ()) (List.getD xs (Int.toNat x) (0 : Int)) fun (r : Bool) ↦ cnd r (Q x) (I (IntKind.wrap IntKind.i64 (x + (1 : Int))) ∧ μ (IntKind.wrap IntKind.i64 (x + (1 : Int))) < μ x)) (Q (-1 : Int))
theorem v123 (xs : List Int) (f : Int → (Bool → Prop) → Prop) (Q : Int → Prop) : V123 xs f Q = vcFunc (S0 [] []) f123_ct.own f123_ct.fresh idx_an Tryd.f123 (bodyOf Tryd.f123) f123_ct.A f123_ct.C f123_ct.R (xs, f, ()) () Q := by kernel_rfl

def V104 (xs : List Int) (f : Int → (Bool → Prop) → Prop) (Q : Bool → Prop) : Prop := f123_wp (xs, f, ()) () fun (r : Int) ↦ Q (decide (r ≥ (0 : Int)))
theorem v104 (xs : List Int) (f : Int → (Bool → Prop) → Prop) (Q : Bool → Prop) : V104 xs f Q = vcFunc (S0 [(123, f123_ct)] []) f104_ct.own f104_ct.fresh no_an Tryd.f104 (bodyOf Tryd.f104) f104_ct.A f104_ct.C f104_ct.R (xs, f, ()) () Q := by kernel_rfl

def V106 (xs : List (Int × Int)) (f : Int × Int → (Bool → Prop) → Prop) (Q : Int → Prop) : Prop := List.length xs ≤ (9223372036854775807 : Nat) → ∃ (I : Int → Prop), ∃ (μ : Int → Nat), I (0 : Int) ∧ ∀ (x : Int), I x → cnd (decide (x < (↑(List.length xs) : Int))) ((0 : Int) ≤ x ∧ x < (↑(List.length xs) : Int) ∧ Prod.fst (f, ()) (Prod.fst (List.getD xs (Int.toNat x) ((0 : Int), (0 : Int))), Prod.snd (List.getD xs (Int.toNat x) ((0 : Int), (0 : Int)))) fun (r : Bool) ↦ cnd r (Q x) (I (IntKind.wrap IntKind.i64 (x + (1 : Int))) ∧ μ (IntKind.wrap IntKind.i64 (x + (1 : Int))) < μ x)) (Q (-1 : Int))
theorem v106 (xs : List (Int × Int)) (f : Int × Int → (Bool → Prop) → Prop) (Q : Int → Prop) : V106 xs f Q = vcFunc (S0 [] []) f106_ct.own f106_ct.fresh idx_an Tryd.f106 (bodyOf Tryd.f106) f106_ct.A f106_ct.C f106_ct.R (xs, f, ()) () Q := by kernel_rfl

def V67 (xs : List (Int × Int)) (f : Int × Int → (Bool → Prop) → Prop) (Q : Bool → Prop) : Prop := f106_wp (xs, f, ()) () fun (r : Int) ↦ Q (decide (r ≥ (0 : Int)))
theorem v67 (xs : List (Int × Int)) (f : Int × Int → (Bool → Prop) → Prop) (Q : Bool → Prop) : V67 xs f Q = vcFunc (S0 [(106, f106_ct)] []) f67_ct.own f67_ct.fresh no_an Tryd.f67 (bodyOf Tryd.f67) f67_ct.A f67_ct.C f67_ct.R (xs, f, ()) () Q := by kernel_rfl

def V107 (xs : List (List Int)) (f : List Int → (Bool → Prop) → Prop) (Q : Int → Prop) : Prop := List.length xs ≤ (9223372036854775807 : Nat) → ∃ (I : Int → Prop), ∃ (μ : Int → Nat), I (0 : Int) ∧ ∀ (x : Int), I x → cnd (decide (x < (↑(List.length xs) : Int))) ((0 : Int) ≤ x ∧ x < (↑(List.length xs) : Int) ∧ Prod.fst (f, ()) (List.getD xs (Int.toNat x) []) fun (r : Bool) ↦ cnd r (Q x) (I (IntKind.wrap IntKind.i64 (x + (1 : Int))) ∧ μ (IntKind.wrap IntKind.i64 (x + (1 : Int))) < μ x)) (Q (-1 : Int))
theorem v107 (xs : List (List Int)) (f : List Int → (Bool → Prop) → Prop) (Q : Int → Prop) : V107 xs f Q = vcFunc (S0 [] []) f107_ct.own f107_ct.fresh idx_an Tryd.f107 (bodyOf Tryd.f107) f107_ct.A f107_ct.C f107_ct.R (xs, f, ()) () Q := by kernel_rfl

def V69 (xs : List (List Int)) (f : List Int → (Bool → Prop) → Prop) (Q : Bool → Prop) : Prop := f107_wp (xs, f, ()) () fun (r : Int) ↦ Q (decide (r ≥ (0 : Int)))
theorem v69 (xs : List (List Int)) (f : List Int → (Bool → Prop) → Prop) (Q : Bool → Prop) : V69 xs f Q = vcFunc (S0 [(107, f107_ct)] []) f69_ct.own f69_ct.fresh no_an Tryd.f69 (bodyOf Tryd.f69) f69_ct.A f69_ct.C f69_ct.R (xs, f, ()) () Q := by kernel_rfl

def V66 (lo : Int) (hi : Int) (xs : List Int) (Q : Bool → Prop) : Prop := f104_wp (xs, fun (x : Int) (Q : Bool → Prop) ↦ f105_wp x (lo, hi, ()) fun (r : Bool) ↦ Q r, ()) () fun (r : Bool) ↦ Q !r
theorem v66 (lo : Int) (hi : Int) (xs : List Int) (Q : Bool → Prop) : V66 lo hi xs Q = vcFunc (S0 [(104, f104_ct), (105, f105_ct)] []) f66_ct.own f66_ct.fresh no_an Tryd.f66 (bodyOf Tryd.f66) f66_ct.A f66_ct.C f66_ct.R (lo, hi, xs, ()) () Q := by kernel_rfl

def V65 (s : Int × Int) (Q : Bool → Prop) : Prop := f66_wp ((-100 : Int), (100 : Int), [Prod.fst s, Prod.snd s], ()) () fun (r : Bool) ↦ cnd r (Q (decide (Prod.fst s ≤ Prod.snd s))) (Q false)
theorem v65 (s : Int × Int) (Q : Bool → Prop) : V65 s Q = vcFunc (S0 [(66, f66_ct)] []) f65_ct.own f65_ct.fresh no_an Tryd.f65 (bodyOf Tryd.f65) f65_ct.A f65_ct.C f65_ct.R s () Q := by kernel_rfl

def V68 (s : Int × Int) (g : Int × Int → (Bool → Prop) → Prop) (Q : Bool → Prop) : Prop := Prod.fst (g, ()) (Prod.fst s, Prod.snd s) fun (r : Bool) ↦ Q !r
theorem v68 (s : Int × Int) (g : Int × Int → (Bool → Prop) → Prop) (Q : Bool → Prop) : V68 s g Q = vcFunc (S0 [] []) f68_ct.own f68_ct.fresh no_an Tryd.f68 (bodyOf Tryd.f68) f68_ct.A f68_ct.C f68_ct.R s (g, ()) Q := by kernel_rfl

def V70 (f : List Int) (n : Int) (Q : Bool → Prop) : Prop := List.length f ≤ (9223372036854775807 : Nat) → cnd ((↑(List.length f) : Int) != n) (Q true) (f66_wp ((0 : Int), (10000 : Int), f, ()) () fun (r : Bool) ↦ Q !r)
theorem v70 (f : List Int) (n : Int) (Q : Bool → Prop) : V70 f n Q = vcFunc (S0 [(66, f66_ct)] []) f70_ct.own f70_ct.fresh no_an Tryd.f70 (bodyOf Tryd.f70) f70_ct.A f70_ct.C f70_ct.R f (n, ()) Q := by kernel_rfl

def V21 (g : List Int × List Int × List (Int × Int)) (fs : List (List Int)) (Q : Int → Prop) : Prop := List.length (Prod.fst g) ≤ (9223372036854775807 : Nat) → f66_wp ((1 : Int), (4 : Int), [(↑(List.length (Prod.fst g)) : Int)], ()) () fun (r : Bool) ↦ cnd (!r) (Q (4 : Int)) (List.length (Prod.fst (Prod.snd g)) ≤ (9223372036854775807 : Nat) → cnd ((↑(List.length (Prod.fst (Prod.snd g))) : Int) != (↑(List.length (Prod.fst g)) : Int)) (Q (4 : Int)) (List.length (Prod.snd (Prod.snd g)) ≤ (9223372036854775807 : Nat) → cnd ((↑(List.length (Prod.snd (Prod.snd g))) : Int) != (↑(List.length (Prod.fst g)) : Int)) (Q (4 : Int)) (f66_wp ((0 : Int), (5 : Int), Prod.fst g, ()) () fun (r : Bool) ↦ cnd (!r) (Q (2 : Int)) (f66_wp ((0 : Int), (100 : Int), Prod.fst (Prod.snd g), ()) () fun (r : Bool) ↦ cnd (!r) (Q (2 : Int)) (f67_wp (Prod.snd (Prod.snd g), fun (x : Int × Int) (Q : Bool → Prop) ↦ f68_wp x (fun (x : Int × Int) (Q : Bool → Prop) ↦ f65_wp x () fun (r : Bool) ↦ Q r, ()) fun (r : Bool) ↦ Q r, ()) () fun (r : Bool) ↦ cnd r (Q (2 : Int)) (List.length fs ≤ (9223372036854775807 : Nat) → cnd (decide ((↑(List.length fs) : Int) > (5 : Int))) (Q (5 : Int)) (f69_wp (fs, fun (x : List Int) (Q : Bool → Prop) ↦ f70_wp x ((↑(List.length (Prod.fst g)) : Int), ()) fun (r : Bool) ↦ Q r, ()) () fun (r : Bool) ↦ cnd r (Q (3 : Int)) (Q (0 : Int)))))))))
theorem v21 (g : List Int × List Int × List (Int × Int)) (fs : List (List Int)) (Q : Int → Prop) : V21 g fs Q = vcFunc (S0 [(66, f66_ct), (67, f67_ct), (69, f69_ct), (65, f65_ct), (68, f68_ct), (70, f70_ct)] []) f21_ct.own f21_ct.fresh no_an Tryd.f21 (bodyOf Tryd.f21) f21_ct.A f21_ct.C f21_ct.R (g, fs, ()) () Q := by kernel_rfl

def V71 (g : List Int × List Int × List (Int × Int)) (fs : List (List Int)) (Q : ((List Int × List Int × List (Int × Int)) × List (List Int)) × Int × Unit → Prop) : Prop := ∃ (r : Int), (f21_wp ((Prod.fst g, Prod.fst (Prod.snd g), Prod.snd (Prod.snd g)), fs, ()) () fun (r' : Int) ↦ r' = r) ∧ Q (((Prod.fst g, Prod.fst (Prod.snd g), Prod.snd (Prod.snd g)), fs), r, ())
theorem v71 (g : List Int × List Int × List (Int × Int)) (fs : List (List Int)) (Q : ((List Int × List Int × List (Int × Int)) × List (List Int)) × Int × Unit → Prop) : V71 g fs Q = vcFunc (S0 [(21, f21_ct)] []) f71_ct.own f71_ct.fresh no_an Tryd.f71 (bodyOf Tryd.f71) f71_ct.A f71_ct.C f71_ct.R (g, fs, ()) () Q := by kernel_rfl

def V108 (a : Int × Int) (b : Int × Int) (Q : Int × Int → Prop) : Prop := Q (mxI (Prod.fst a) (Prod.fst b), mnI (Prod.snd a) (Prod.snd b))
theorem v108 (a : Int × Int) (b : Int × Int) (Q : Int × Int → Prop) : V108 a b Q = vcFunc (S0 [] []) f108_ct.own f108_ct.fresh no_an Tryd.f108 (bodyOf Tryd.f108) f108_ct.A f108_ct.C f108_ct.R (a, b, ()) () Q := by kernel_rfl

def V109 (s : Int × Int) (off : Int) (Q : Int × Int → Prop) : Prop := Q (IntKind.wrap IntKind.i64 (Prod.fst s - off), IntKind.wrap IntKind.i64 (Prod.snd s + off))
theorem v109 (s : Int × Int) (off : Int) (Q : Int × Int → Prop) : V109 s off Q = vcFunc (S0 [] []) f109_ct.own f109_ct.fresh no_an Tryd.f109 (bodyOf Tryd.f109) f109_ct.A f109_ct.C f109_ct.R (s, off, ()) () Q := by kernel_rfl

def V77 (b : (List Int × List Int × List (Int × Int)) × List (List Int)) (m : Int) (f : Int) (Q : Int × Int → Prop) : Prop := (0 : Int) ≤ f ∧ f < (↑(List.length (Prod.snd b)) : Int) ∧ (0 : Int) ≤ m ∧ m < (↑(List.length (List.getD (Prod.snd b) (Int.toNat f) [])) : Int) ∧ (0 : Int) ≤ m ∧ m < (↑(List.length (Prod.fst (Prod.fst b))) : Int) ∧ f109_wp ((List.getD (List.getD (Prod.snd b) (Int.toNat f) []) (Int.toNat m) (0 : Int), List.getD (List.getD (Prod.snd b) (Int.toNat f) []) (Int.toNat m) (0 : Int)), List.getD (Prod.fst (Prod.fst b)) (Int.toNat m) (0 : Int), ()) () fun (r : Int × Int) ↦ Q (Prod.fst r, Prod.snd r)
theorem v77 (b : (List Int × List Int × List (Int × Int)) × List (List Int)) (m : Int) (f : Int) (Q : Int × Int → Prop) : V77 b m f Q = vcFunc (S0 [(109, f109_ct)] []) f77_ct.own f77_ct.fresh no_an Tryd.f77 (bodyOf Tryd.f77) f77_ct.A f77_ct.C f77_ct.R (b, m, f, ()) () Q := by kernel_rfl

def V72 (b : (List Int × List Int × List (Int × Int)) × List (List Int)) (m : Int) (is : Int → (Bool → Prop) → Prop) (Q : Int × Int → Prop) : Prop := List.length (Prod.snd b) ≤ (9223372036854775807 : Nat) → ∃ (I : Int → Int × Int → Prop), ∃ (μ : Int → Int × Int → Nat), I (0 : Int) ((-1048576 : Int), (1048576 : Int)) ∧ ∀ (x : Int) (x_1 : Int × Int), I x x_1 → cnd (decide (x < (↑(List.length (Prod.snd b)) : Int))) (Prod.fst (is, ()) x fun (r : Bool) ↦ cnd r (∃ (r : Int × Int), (f77_wp (((Prod.fst (Prod.fst b), Prod.fst (Prod.snd (Prod.fst b)), Prod.snd (Prod.snd (Prod.fst b))), Prod.snd b), m, x, ()) () fun (r' : Int × Int) ↦ r' = r) ∧ (0 : Int) ≤ m ∧ m < (↑(List.length (Prod.fst (Prod.snd (Prod.fst b)))) : Int) ∧ ∃ (r_1 : Int × Int), (f109_wp ((Prod.fst r, Prod.snd r), List.getD (Prod.fst (Prod.snd (Prod.fst b))) (Int.toNat m) (0 : Int), ()) () fun (r' : Int × Int) ↦ r' = r_1) ∧ ∃ (r : Int × Int), (f108_wp ((Prod.fst x_1, Prod.snd x_1), (Prod.fst r_1, Prod.snd r_1), ()) () fun (r' : Int × Int) ↦ r' = r) ∧ I (IntKind.wrap IntKind.i64 (x + (1 : Int))) (Prod.fst r, Prod.snd r) ∧ μ (IntKind.wrap IntKind.i64 (x + (1 : Int))) (Prod.fst r, Prod.snd r) < μ x x_1) (I (IntKind.wrap IntKind.i64 (x + (1 : Int))) (Prod.fst x_1, Prod.snd x_1) ∧ μ (IntKind.wrap IntKind.i64 (x + (1 : Int))) (Prod.fst x_1, Prod.snd x_1) < μ x x_1)) (Q (Prod.fst x_1, Prod.snd x_1))
theorem v72 (b : (List Int × List Int × List (Int × Int)) × List (List Int)) (m : Int) (is : Int → (Bool → Prop) → Prop) (Q : Int × Int → Prop) : V72 b m is Q = vcFunc (S0 [(77, f77_ct), (109, f109_ct), (108, f108_ct)] []) f72_ct.own f72_ct.fresh f72_an Tryd.f72 (bodyOf Tryd.f72) f72_ct.A f72_ct.C f72_ct.R (b, m, is, ()) () Q := by kernel_rfl

def V73 (n : Int) (Q : Bool → Prop) : Prop := Q true
theorem v73 (n : Int) (Q : Bool → Prop) : V73 n Q = vcFunc (S0 [] []) f73_ct.own f73_ct.fresh no_an Tryd.f73 (bodyOf Tryd.f73) f73_ct.A f73_ct.C f73_ct.R n () Q := by kernel_rfl

def V78 (b : (List Int × List Int × List (Int × Int)) × List (List Int)) (is : Int → (Bool → Prop) → Prop) (Q : Bool → Prop) : Prop := List.length (Prod.fst (Prod.fst b)) ≤ (9223372036854775807 : Nat) → ∃ (I : Int → Prop), ∃ (μ : Int → Nat), I (0 : Int) ∧ ∀ (x : Int), I x → cnd (decide (x < (↑(List.length (Prod.fst (Prod.fst b))) : Int))) (f72_wp (((Prod.fst (Prod.fst b), Prod.fst (Prod.snd (Prod.fst b)), Prod.snd (Prod.snd (Prod.fst b))), Prod.snd b), x, is, ()) () fun (r : Int × Int) ↦ cnd (decide (Prod.fst r > Prod.snd r)) (Q false) (I (IntKind.wrap IntKind.i64 (x + (1 : Int))) ∧ μ (IntKind.wrap IntKind.i64 (x + (1 : Int))) < μ x)) (Q true)
theorem v78 (b : (List Int × List Int × List (Int × Int)) × List (List Int)) (is : Int → (Bool → Prop) → Prop) (Q : Bool → Prop) : V78 b is Q = vcFunc (S0 [(72, f72_ct)] []) f78_ct.own f78_ct.fresh f78_an Tryd.f78 (bodyOf Tryd.f78) f78_ct.A f78_ct.C f78_ct.R (b, is, ()) () Q := by kernel_rfl

def V22 (g : List Int × List Int × List (Int × Int)) (fs : List (List Int)) (Q : List (Int × Int) × Int × Unit → Prop) : Prop := f71_wp ((Prod.fst g, Prod.fst (Prod.snd g), Prod.snd (Prod.snd g)), fs, ()) () fun (r : ((List Int × List Int × List (Int × Int)) × List (List Int)) × Int × Unit) ↦ cnd (Prod.fst (Prod.snd r) != (0 : Int)) (Q ([], Prod.fst (Prod.snd r), ())) (List.length fs ≤ (9223372036854775807 : Nat) → cnd ((↑(List.length fs) : Int) == (0 : Int)) (Q ([], (7 : Int), ())) (List.length (Prod.fst g) ≤ (9223372036854775807 : Nat) → ∃ (I : Int → List (Int × Int) → Prop), ∃ (μ : Int → List (Int × Int) → Nat), I (0 : Int) [] ∧ ∀ (x : Int) (x_1 : List (Int × Int)), I x x_1 → cnd (decide (x < (↑(List.length (Prod.fst g)) : Int))) (f72_wp (((Prod.fst (Prod.fst (Prod.fst r)), Prod.fst (Prod.snd (Prod.fst (Prod.fst r))), Prod.snd (Prod.snd (Prod.fst (Prod.fst r)))), Prod.snd (Prod.fst r)), x, fun (x : Int) (Q : Bool → Prop) ↦ f73_wp x () fun (r : Bool) ↦ Q r, ()) () fun (r : Int × Int) ↦ cnd (decide (Prod.fst r > Prod.snd r)) (Q ([], (9 : Int), ())) ((List.length x_1 + List.length [(Prod.fst r, Prod.snd r)]) * (16 : Nat) ≤ (140737488355328 : Nat) ∧ I (IntKind.wrap IntKind.i64 (x + (1 : Int))) (x_1 ++ [(Prod.fst r, Prod.snd r)]) ∧ μ (IntKind.wrap IntKind.i64 (x + (1 : Int))) (x_1 ++ [(Prod.fst r, Prod.snd r)]) < μ x x_1)) (Q (x_1, (0 : Int), ()))))
theorem v22 (g : List Int × List Int × List (Int × Int)) (fs : List (List Int)) (Q : List (Int × Int) × Int × Unit → Prop) : V22 g fs Q = vcFunc (S0 [(71, f71_ct), (72, f72_ct), (73, f73_ct)] []) f22_ct.own f22_ct.fresh f22_an Tryd.f22 (bodyOf Tryd.f22) f22_ct.A f22_ct.C f22_ct.R (g, fs, ()) () Q := by kernel_rfl

end Go.Proofs.Tw
namespace Go.Proofs.Tw
open Go Go.GX
theorem wrapS {x : Int} (h1 : -9223372036854775808 ≤ x) (h2 : x ≤ 9223372036854775807) : IntKind.wrap .i64 x = x := by
  have hb : (2 : Int) ^ IntKind.i64.bits = 18446744073709551616 := rfl
  have hb' : (2 : Int) ^ (IntKind.i64.bits - 1) = 9223372036854775808 := rfl
  have hs : IntKind.i64.signed = true := rfl
  unfold IntKind.wrap
  simp only [hb, hb', hs, Bool.true_and, decide_eq_true_eq]
  split <;> omega
theorem forUp {σ : Type} {n : Nat} (hn : n ≤ 9223372036854775807) (F : Nat → σ) {s0 : σ} (h0 : s0 = F 0) {body : (Int → σ → Prop) → (Int → σ → Nat) → Int → σ → Prop}
    (hb : ∀ k : Nat, k < n → ∀ (I : Int → σ → Prop) (μ : Int → σ → Nat), (I (k + 1 : Int) (F (k + 1)) ∧ μ (k + 1 : Int) (F (k + 1)) < μ k (F k)) → IntKind.wrap .i64 ((k : Int) + 1) = k + 1 → body I μ k (F k))
    {e : Int → σ → Prop} (he : e n (F n)) :
    ∃ (I : Int → σ → Prop) (μ : Int → σ → Nat), I 0 s0 ∧ ∀ x s, I x s → cnd (decide (x < (n : Int))) (body I μ x s) (e x s) := by
  refine ⟨fun x s => ∃ k : Nat, k ≤ n ∧ x = k ∧ s = F k, fun x _ => (n - x).toNat, ⟨0, Nat.zero_le _, rfl, h0⟩, ?_⟩
  rintro x s ⟨k, hk, rfl, rfl⟩
  refine cnd_iff.2 ⟨fun h => ?_, fun h => ?_⟩
  · have h : (k : Int) < n := of_decide_eq_true h
    refine hb k (by omega) _ _ ⟨⟨k + 1, by omega, by push_cast; rfl, rfl⟩, by omega⟩ (wrapS (by omega) (by omega))
  · have h : ¬ (k : Int) < n := of_decide_eq_false h
    have : k = n := by omega
    subst this
    exact he

theorem forUpG {n : Nat} (hn : n ≤ 9223372036854775807) (go : Nat → Prop) (h0 : go 0) {body : (Int → Prop) → (Int → Nat) → Int → Prop}
    (hb : ∀ k : Nat, k < n → go k → ∀ (I : Int → Prop) (μ : Int → Nat), (go (k + 1) → I (k + 1 : Int) ∧ μ (k + 1 : Int) < μ k) → IntKind.wrap .i64 ((k : Int) + 1) = k + 1 → body I μ k)
    {e : Int → Prop} (he : go n → e n) :
    ∃ (I : Int → Prop) (μ : Int → Nat), I 0 ∧ ∀ x, I x → cnd (decide (x < (n : Int))) (body I μ x) (e x) := by
  refine ⟨fun x => ∃ k : Nat, k ≤ n ∧ x = k ∧ go k, fun x => (n - x).toNat, ⟨0, Nat.zero_le _, rfl, h0⟩, ?_⟩
  rintro x ⟨k, hk, rfl, hg⟩
  refine cnd_iff.2 ⟨fun h => ?_, fun h => ?_⟩
  · have h : (k : Int) < n := of_decide_eq_true h
    refine hb k (by omega) hg _ _ (fun hg' => ⟨⟨k + 1, by omega, by push_cast; rfl, hg'⟩, by omega⟩) (wrapS (by omega) (by omega))
  · have h : ¬ (k : Int) < n := of_decide_eq_false h
    have : k = n := by omega
    subst this
    exact he hg

theorem forUpGS {σ : Type} {n : Nat} (hn : n ≤ 9223372036854775807) (go : Nat → Prop) (F : Nat → σ) (h0 : go 0) {s0 : σ} (hs0 : s0 = F 0) {body : (Int → σ → Prop) → (Int → σ → Nat) → Int → σ → Prop}
    (hb : ∀ k : Nat, k < n → go k → ∀ (I : Int → σ → Prop) (μ : Int → σ → Nat), (go (k + 1) → I (k + 1 : Int) (F (k + 1)) ∧ μ (k + 1 : Int) (F (k + 1)) < μ k (F k)) → IntKind.wrap .i64 ((k : Int) + 1) = k + 1 → body I μ k (F k))
    {e : Int → σ → Prop} (he : go n → e n (F n)) :
    ∃ (I : Int → σ → Prop) (μ : Int → σ → Nat), I 0 s0 ∧ ∀ x s, I x s → cnd (decide (x < (n : Int))) (body I μ x s) (e x s) := by
  refine ⟨fun x s => ∃ k : Nat, k ≤ n ∧ x = k ∧ s = F k ∧ go k, fun x _ => (n - x).toNat, ⟨0, Nat.zero_le _, rfl, hs0, h0⟩, ?_⟩
  rintro x s ⟨k, hk, rfl, rfl, hg⟩
  refine cnd_iff.2 ⟨fun h => ?_, fun h => ?_⟩
  · have h : (k : Int) < n := of_decide_eq_true h
    refine hb k (by omega) hg _ _ (fun hg' => ⟨⟨k + 1, by omega, by push_cast; rfl, rfl, hg'⟩, by omega⟩) (wrapS (by omega) (by omega))
  · have h : ¬ (k : Int) < n := of_decide_eq_false h
    have : k = n := by omega
    subst this
    exact he hg
theorem forUp2 {σ τ : Type} {n : Nat} (hn : n ≤ 9223372036854775807) (F : Nat → σ) (G : Nat → τ) {s0 : σ} {t0 : τ} (h0 : s0 = F 0) (h0' : t0 = G 0) {body : (Int → σ → τ → Prop) → (Int → σ → τ → Nat) → Int → σ → τ → Prop}
    (hb : ∀ k : Nat, k < n → ∀ (I : Int → σ → τ → Prop) (μ : Int → σ → τ → Nat), (I (k + 1 : Int) (F (k + 1)) (G (k + 1)) ∧ μ (k + 1 : Int) (F (k + 1)) (G (k + 1)) < μ k (F k) (G k)) → IntKind.wrap .i64 ((k : Int) + 1) = k + 1 → body I μ k (F k) (G k))
    {e : Int → σ → τ → Prop} (he : e n (F n) (G n)) :
    ∃ (I : Int → σ → τ → Prop) (μ : Int → σ → τ → Nat), I 0 s0 t0 ∧ ∀ x s t, I x s t → cnd (decide (x < (n : Int))) (body I μ x s t) (e x s t) := by
  refine ⟨fun x s t => ∃ k : Nat, k ≤ n ∧ x = k ∧ s = F k ∧ t = G k, fun x _ _ => (n - x).toNat, ⟨0, Nat.zero_le _, rfl, h0, h0'⟩, ?_⟩
  rintro x s t ⟨k, hk, rfl, rfl, rfl⟩
  refine cnd_iff.2 ⟨fun h => ?_, fun h => ?_⟩
  · have h : (k : Int) < n := of_decide_eq_true h
    refine hb k (by omega) _ _ ⟨⟨k + 1, by omega, by push_cast; rfl, rfl, rfl⟩, by omega⟩ (wrapS (by omega) (by omega))
  · have h : ¬ (k : Int) < n := of_decide_eq_false h
    have : k = n := by omega
    subst this
    exact he
theorem all_succ (p : Nat → Bool) (k : Nat) : (List.range (k + 1)).all p = ((List.range k).all p && p k) := by simp [List.range_succ]
theorem foldl_succ {α : Type} (f : α → Nat → α) (a : α) (k : Nat) : (List.range (k + 1)).foldl f a = f ((List.range k).foldl f a) k := by simp [List.range_succ]
theorem getD_lt {α : Type} {l : List α} {k : Nat} {d : α} (h : k < l.length) : l.getD k d = l[k] := by simp [List.getD, h]
theorem getD_mem {α : Type} {l : List α} {k : Nat} {d : α} (h : k < l.length) : l.getD k d ∈ l := by
  rw [getD_lt h]; exact List.getElem_mem h
theorem idxF_at {α : Type} {p : α → Bool} {xs : List α} {d : α} {k : Nat} (hk : k < xs.length) (h1 : ∀ j, j < k → p (xs.getD j d) = false) (h2 : p (xs.getD k d) = true) : idxF p xs = k := by
  have : xs.findIdx? p = some k := by
    rw [List.findIdx?_eq_some_iff_getElem]
    refine ⟨hk, by rwa [getD_lt hk] at h2, fun j hj => ?_⟩
    have := h1 j hj
    rw [getD_lt (by omega)] at this
    simp [this]
  simp [idxF, this]
theorem idxF_none {α : Type} {p : α → Bool} {xs : List α} {d : α} (h1 : ∀ j, j < xs.length → p (xs.getD j d) = false) : idxF p xs = -1 := by
  have : xs.findIdx? p = none := by
    rw [List.findIdx?_eq_none_iff]
    intro x hx
    obtain ⟨j, hj, rfl⟩ := List.mem_iff_getElem.1 hx
    have := h1 j hj
    rwa [getD_lt hj] at this
  simp [idxF, this]
theorem idxF_ge {α : Type} (p : α → Bool) (xs : List α) : decide (idxF p xs ≥ 0) = xs.any p := by
  cases h : xs.findIdx? p with
  | some i =>
    have h2 := List.findIdx?_isSome (xs := xs) (p := p)
    rw [h] at h2
    simp only [idxF, h]
    rw [← h2]
    simp
  | none =>
    have h2 := List.findIdx?_isSome (xs := xs) (p := p)
    rw [h] at h2
    simp only [idxF, h]
    rw [← h2]
    rfl
theorem idx_loop {α : Type} {xs : List α} {d : α} {f : α → (Bool → Prop) → Prop} {p : α → Bool} (hs : Says f p xs) {Q : Int → Prop} (h : Q (idxF p xs)) (hl : xs.length ≤ 9223372036854775807) :
    ∃ (I : Int → Prop) (μ : Int → Nat), I 0 ∧ ∀ x, I x → cnd (decide (x < (xs.length : Int))) (0 ≤ x ∧ x < (xs.length : Int) ∧ f (xs.getD x.toNat d) fun r => cnd r (Q x) (I (IntKind.wrap .i64 (x + 1)) ∧ μ (IntKind.wrap .i64 (x + 1)) < μ x)) (Q (-1)) := by
  refine forUpG hl (fun k => ∀ j, j < k → p (xs.getD j d) = false) (fun j hj => absurd hj (Nat.not_lt_zero _)) (body := fun I μ x => 0 ≤ x ∧ x < (xs.length : Int) ∧ f (xs.getD x.toNat d) fun r => cnd r (Q x) (I (IntKind.wrap .i64 (x + 1)) ∧ μ (IntKind.wrap .i64 (x + 1)) < μ x)) ?_ (e := fun _ => Q (-1)) ?_
  · intro k hk hg I μ hI hw
    refine ⟨by omega, by omega, ?_⟩
    show f (xs.getD k d) _
    refine hs _ (getD_mem hk) _ (cnd_iff.2 ⟨fun h1 => ?_, fun h1 => ?_⟩)
    · rw [idxF_at hk hg h1] at h; exact h
    · rw [hw]
      refine hI fun j hj => ?_
      rcases Nat.lt_succ_iff_lt_or_eq.1 hj with h2 | rfl
      · exact hg j h2
      · exact h1
  · intro hg
    rw [idxF_none hg] at h; exact h
end Go.Proofs.Tw
set_option linter.unusedVariables false
namespace Go.GX
open Go.RowKit Go.Shelf Go.Proofs

abbrev Lab := Nat → Option Value
def Lab.le (ρ ρ' : Lab) : Prop := ∀ l v, ρ l = some v → ρ' l = some v
theorem Lab.le_refl (ρ : Lab) : ρ.le ρ := fun _ _ h => h
theorem Lab.le.trans {a b c : Lab} (h : a.le b) (k : b.le c) : a.le c := fun l v hv => k l v (h l v hv)
theorem Lab.le_trans {a b c : Lab} (h : a.le b) (k : b.le c) : a.le c := fun l v hv => k l v (h l v hv)

section
variable (P : Program)

def RepCap (ρ : Lab) (X : Nat → Prop) (W : World) : Cap → Value → Prop
  | .l m, v => ρ m = some v ∧ ∃ b, v = .pointer (some ⟨b, 0, none⟩)
  | .d t K x, v => ((Kd.ptr t K).sem P).val X W x v

def RepCaps (ρ : Lab) (X : Nat → Prop) (W : World) : List Cap → List Value → Prop
  | [], vs => vs = []
  | c :: r, vs => ∃ v vs', vs = v :: vs' ∧ RepCap P ρ X W c v ∧ RepCaps ρ X W r vs'

def RepC (ρ : Lab) (X : Nat → Prop) (W : World) : SC → Value → Prop
  | .v u, w => w = u ∧ u.oneCell' = true
  | .d K x, w => (K.sem P).cells X W x [w]
  | .fr e K xs, w => (∃ A, w = .slice A xs.length xs.length) ∧ ((Kd.sl e K).sem P).cells X W xs [w]
  | .nl _ _, w => w = .slice none 0 0
  | .own l, w => ρ l = some w ∧ ∃ a n c, w = .slice a n c
  | .ptr l off, w => ∃ b, ρ l = some (.pointer (some ⟨b, 0, none⟩)) ∧ w = .pointer (some ⟨b, off, none⟩)
  | .ep l j sz off, w => ∃ ad n c, ρ l = some (.slice (some ad) n c) ∧ w = .pointer (some ((ad : Addr).add (j * sz + off))) ∧ j < n
  | .dp K x off, w => ∃ ad cs, w = .pointer (some ((ad : Addr).add off)) ∧ ¬ X ad.block ∧ ad.block < W.heap.size ∧ (K.sem P).cells X W x cs ∧ ∀ (i : Nat) u, cs[i]? = some u → W.cell? (ad.add i) = some u
  | .clo f caps, w => ∃ vs : List Value, w = .func (.func f) #[] vs.toArray ∧ RepCaps P ρ X W caps vs
  | .inn l vl j, w => ∃ us : List Value, ρ vl = some (.tuple us.toArray) ∧ us[j]? = some w ∧ (∃ a n c, w = .slice a n c) ∧ (ρ l).isSome = true
  | .pt l n j, w => (∃ b, ρ l = some (.pointer (some ⟨b, 0, none⟩)) ∧ w = .pointer (some ⟨b, j.toNat, none⟩)) ∧ 0 ≤ j ∧ j < (n : Int)
  | .iep l vl j i sz off, w => ∃ (us : List Value) (ad : Addr) (n c : Nat), ρ vl = some (.tuple us.toArray) ∧ us[j]? = some (.slice (some ad) n c) ∧ w = .pointer (some (ad.add (i * sz + off))) ∧ i < n ∧ (ρ l).isSome = true
  | .sub l lo hi sz, w => ∃ A0 n c, ρ l = some (.slice A0 n c) ∧ lo ≤ hi ∧ hi ≤ n ∧ ∃ A m, w = .slice A (hi - lo) m ∧ hi - lo ≤ m ∧ m ≤ maxLen ∧ (lo < hi → ∃ ad, A0 = some ad ∧ A = some ((ad : Addr).add (lo * sz)))

def RepCs (ρ : Lab) (X : Nat → Prop) (W : World) : List SC → List Value → Prop
  | [], vs => vs = []
  | c :: r, vs => ∃ v vs', vs = v :: vs' ∧ RepC P ρ X W c v ∧ RepCs ρ X W r vs'

def RepV1 (ρ : Lab) (X : Nat → Prop) (W : World) : Bool → List SC → Value → Prop
  | false, cs, v => ∃ c, cs = [c] ∧ RepC P ρ X W c v
  | true, cs, v => ∃ vs : List Value, v = .agg vs.toArray ∧ RepCs P ρ X W cs vs

def RepT (ρ : Lab) (X : Nat → Prop) (W : World) : List (Bool × List SC) → List Value → Prop
  | [], vs => vs = []
  | c :: r, vs => ∃ v vs', vs = v :: vs' ∧ RepV1 P ρ X W c.1 c.2 v ∧ RepT ρ X W r vs'

def RepV (ρ : Lab) (X : Nat → Prop) (W : World) : SV → Value → Prop
  | .any, _ => True
  | .mk a cs, v => RepV1 P ρ X W a cs v
  | .tup l, v => ∃ vs : List Value, v = .tuple vs.toArray ∧ RepT P ρ X W l vs
end

section
variable {P : Program} {ρ ρ' : Lab} {X X' : Nat → Prop} {W W' : World}

theorem RepCap.mono (hρ : ρ.le ρ') (e : Evo X W X' W') : ∀ {c v}, RepCap P ρ X W c v → RepCap P ρ' X' W' c v
  | .l m, v, ⟨h, hb⟩ => ⟨hρ _ _ h, hb⟩
  | .d t K x, v, h => (Kd.stands P (.ptr t K)).val e h

theorem Lab.isSome {ρ ρ' : Lab} (h : ρ.le ρ') {l : Nat} (hl : (ρ l).isSome = true) : (ρ' l).isSome = true := by
  cases hv : ρ l with
  | none => rw [hv] at hl; cases hl
  | some v => rw [h l v hv]; rfl

theorem RepCaps.mono (hρ : ρ.le ρ') (e : Evo X W X' W') : ∀ {cs vs}, RepCaps P ρ X W cs vs → RepCaps P ρ' X' W' cs vs
  | [], _, h => h
  | c :: r, _, ⟨v, vs', h, h1, h2⟩ => ⟨v, vs', h, h1.mono hρ e, RepCaps.mono hρ e h2⟩

theorem RepC.mono (hρ : ρ.le ρ') (e : Evo X W X' W') : ∀ {c v}, RepC P ρ X W c v → RepC P ρ' X' W' c v
  | .v u, _, h => h
  | .d K x, _, h => (Kd.stands P K).cells e h
  | .fr t K xs, _, ⟨h1, h2⟩ => ⟨h1, (Kd.stands P (.sl t K)).cells e h2⟩
  | .nl _ _, _, h => h
  | .own l, _, ⟨h, h1⟩ => ⟨hρ _ _ h, h1⟩
  | .ptr l off, _, ⟨b, h, h1⟩ => ⟨b, hρ _ _ h, h1⟩
  | .pt l n j, _, ⟨⟨b, h, h1⟩, h2⟩ => ⟨⟨b, hρ _ _ h, h1⟩, h2⟩
  | .ep l j sz off, _, ⟨b, n, c, h, h1⟩ => ⟨b, n, c, hρ _ _ h, h1⟩
  | .dp K x off, _, ⟨ad, cs, h, h1, h2, h3, h4⟩ => ⟨ad, cs, h, e.notIn h1 h2, Nat.lt_of_lt_of_le h2 e.size, (Kd.stands P K).cells e h3, fun i u hu => (e.row h1 (h4 i u hu)).2⟩
  | .clo f caps, _, ⟨vs, h, h1⟩ => ⟨vs, h, h1.mono hρ e⟩
  | .inn l vl j, _, ⟨us, h, h1, h2, h3⟩ => ⟨us, hρ _ _ h, h1, h2, Lab.isSome hρ h3⟩
  | .iep l vl j i sz off, _, ⟨us, ad, n, c, h, h1, h2, h3, h4⟩ => ⟨us, ad, n, c, hρ _ _ h, h1, h2, h3, Lab.isSome hρ h4⟩
  | .sub l lo hi sz, _, ⟨A0, n, c, h, h1⟩ => ⟨A0, n, c, hρ _ _ h, h1⟩

theorem RepCs.mono (hρ : ρ.le ρ') (e : Evo X W X' W') : ∀ {cs vs}, RepCs P ρ X W cs vs → RepCs P ρ' X' W' cs vs
  | [], _, h => h
  | c :: r, _, ⟨v, vs', h, h1, h2⟩ => ⟨v, vs', h, h1.mono hρ e, RepCs.mono hρ e h2⟩

theorem RepV1.mono (hρ : ρ.le ρ') (e : Evo X W X' W') : ∀ {a cs v}, RepV1 P ρ X W a cs v → RepV1 P ρ' X' W' a cs v
  | false, _, _, ⟨c, h, h1⟩ => ⟨c, h, h1.mono hρ e⟩
  | true, _, _, ⟨vs, h, h1⟩ => ⟨vs, h, h1.mono hρ e⟩

theorem RepT.mono (hρ : ρ.le ρ') (e : Evo X W X' W') : ∀ {l vs}, RepT P ρ X W l vs → RepT P ρ' X' W' l vs
  | [], _, h => h
  | c :: r, _, ⟨v, vs', h, h1, h2⟩ => ⟨v, vs', h, h1.mono hρ e, RepT.mono hρ e h2⟩

theorem RepV.mono (hρ : ρ.le ρ') (e : Evo X W X' W') : ∀ {s v}, RepV P ρ X W s v → RepV P ρ' X' W' s v
  | .any, _, _ => trivial
  | .mk _ _, _, h => RepV1.mono hρ e h
  | .tup _, _, ⟨vs, h, h1⟩ => ⟨vs, h, h1.mono hρ e⟩

theorem Kd.cells_one1 {K : Kd} {x : K.T} {v : Value} (h : (K.sem P).cells X W x [v]) : v.oneCell' = true := Kd.cells_one P K h v (by simp)

theorem RepC.one : ∀ {c v}, RepC P ρ X W c v → v.oneCell' = true
  | .v u, _, ⟨h, h1⟩ => by rw [h]; exact h1
  | .d K x, _, h => Kd.cells_one1 h
  | .fr t K xs, _, ⟨h1, h2⟩ => Kd.cells_one1 h2
  | .nl _ _, _, h => by rw [show _ = Value.slice none 0 0 from h]; rfl
  | .own l, _, ⟨_, a, n, c, h⟩ => by rw [h]; rfl
  | .ptr l off, _, ⟨b, _, h⟩ => by rw [h]; rfl
  | .pt l n j, _, ⟨⟨b, _, h⟩, _⟩ => by rw [h]; rfl
  | .ep l j sz off, _, ⟨b, n, c, _, h, _⟩ => by rw [h]; rfl
  | .dp K x off, _, ⟨ad, cs, h, _⟩ => by rw [h]; rfl
  | .clo f caps, _, ⟨vs, h, _⟩ => by rw [h]; rfl
  | .inn l vl j, _, ⟨us, _, _, ⟨a, n, c, h⟩, _⟩ => by rw [h]; rfl
  | .iep l vl j i sz off, _, ⟨us, ad, n, c, _, _, h, _⟩ => by rw [h]; rfl
  | .sub l lo hi sz, _, ⟨A0, n, c, _, _, _, A, m, h, _⟩ => by rw [h]; rfl

theorem RepCs.length : ∀ {cs vs}, RepCs P ρ X W cs vs → vs.length = cs.length
  | [], _, h => by rw [show _ = [] from h]; rfl
  | c :: r, _, ⟨v, vs', h, _, h2⟩ => by rw [h]; simp [RepCs.length h2]

theorem RepCs.one : ∀ {cs vs}, RepCs P ρ X W cs vs → ∀ u ∈ vs, u.oneCell' = true
  | [], _, h => by rw [show _ = [] from h]; simp
  | c :: r, _, ⟨v, vs', h, h1, h2⟩ => by
    rw [h]
    intro u hu
    rcases List.mem_cons.1 hu with rfl | hu
    · exact h1.one
    · exact h2.one u hu

theorem RepCs.get : ∀ {cs vs}, RepCs P ρ X W cs vs → ∀ (i : Nat) c, cs[i]? = some c → ∃ v, vs[i]? = some v ∧ RepC P ρ X W c v
  | c :: r, _, ⟨v, vs', h, h1, h2⟩, 0, d, hd => by
    rw [h]
    simp only [List.getElem?_cons_zero, Option.some.injEq] at hd ⊢
    subst hd
    exact ⟨v, rfl, h1⟩
  | c :: r, _, ⟨v, vs', h, h1, h2⟩, i + 1, d, hd => by
    rw [h]
    simp only [List.getElem?_cons_succ] at hd ⊢
    exact h2.get i d hd

theorem RepCs.append : ∀ {cs ds vs us}, RepCs P ρ X W cs vs → RepCs P ρ X W ds us → RepCs P ρ X W (cs ++ ds) (vs ++ us)
  | [], _, _, _, h, h' => by rw [show _ = [] from h]; exact h'
  | c :: r, _, _, _, ⟨v, vs', h, h1, h2⟩, h' => ⟨v, vs' ++ _, by rw [h]; rfl, h1, RepCs.append h2 h'⟩

theorem RepCs.drop : ∀ {cs vs} (n : Nat), RepCs P ρ X W cs vs → RepCs P ρ X W (cs.drop n) (vs.drop n)
  | cs, _, 0, h => by simpa using h
  | [], _, n + 1, h => by rw [show _ = [] from h]; simp [RepCs]
  | c :: r, _, n + 1, ⟨v, vs', h, h1, h2⟩ => by rw [h]; exact RepCs.drop n h2

theorem RepCs.take : ∀ {cs vs} (n : Nat), RepCs P ρ X W cs vs → RepCs P ρ X W (cs.take n) (vs.take n)
  | cs, _, 0, h => by simp [RepCs]
  | [], _, n + 1, h => by rw [show _ = [] from h]; simp [RepCs]
  | c :: r, _, n + 1, ⟨v, vs', h, h1, h2⟩ => by rw [h]; exact ⟨v, vs'.take n, rfl, h1, RepCs.take n h2⟩

theorem RepCs.splice {cs ds : List SC} {vs us : List Value} (off : Nat) (h : RepCs P ρ X W cs vs) (h' : RepCs P ρ X W ds us) : RepCs P ρ X W (GX.splice cs off ds) (GX.splice vs off us) := by
  unfold GX.splice
  rw [h'.length]
  exact ((h.take off).append h').append (h.drop _)

theorem repInt {k : IntKind} {x : Int} {w : Value} : RepC P ρ X W (.d (.int k) x) w ↔ w = .int k x := by
  constructor
  · rintro ⟨v, hv, _, h⟩
    cases hv
    exact h
  · rintro rfl
    exact ⟨_, rfl, rfl, rfl⟩
theorem repBool {x : Bool} {w : Value} : RepC P ρ X W (.d .bool x) w ↔ w = .bool x := by
  constructor
  · rintro ⟨v, hv, _, h⟩
    cases hv
    exact h
  · rintro rfl
    exact ⟨_, rfl, rfl, rfl⟩
theorem allI_ok {k : IntKind} : ∀ {cs : List SC} {xs : List Int} {us : List Value}, allI k cs = some xs → RepCs P ρ X W cs us → us = xs.map (Value.int k) ∧ cs = xs.map fun x => .d (.int k) x
  | [], xs, us, h, hr => by
    cases h
    exact ⟨hr, rfl⟩
  | c :: r, xs, us, h, ⟨v, vs', e0, h1, h2⟩ => by
    subst e0
    unfold allI at h
    split at h
    · rename_i heq; cases heq
    · rename_i k' x r' heq
      cases heq
      split at h
      · rename_i hk
        subst hk
        obtain ⟨ys, hy, rfl⟩ := Option.map_eq_some_iff.1 h
        obtain ⟨e1, e2⟩ := allI_ok hy h2
        exact ⟨by rw [repInt.1 h1, e1]; rfl, by rw [e2]; rfl⟩
      · cases h
    · cases h
theorem allB_ok : ∀ {cs : List SC} {xs : List Bool} {us : List Value}, allB cs = some xs → RepCs P ρ X W cs us → us = xs.map Value.bool ∧ cs = xs.map fun x => .d .bool x
  | [], xs, us, h, hr => by
    cases h
    exact ⟨hr, rfl⟩
  | c :: r, xs, us, h, ⟨v, vs', e0, h1, h2⟩ => by
    subst e0
    unfold allB at h
    split at h
    · rename_i heq; cases heq
    · rename_i x r' heq
      cases heq
      obtain ⟨ys, hy, rfl⟩ := Option.map_eq_some_iff.1 h
      obtain ⟨e1, e2⟩ := allB_ok hy h2
      exact ⟨by rw [repBool.1 h1, e1]; rfl, by rw [e2]; rfl⟩
    · cases h
theorem getD_of {α : Type} {xs : List α} {n : Nat} (h : n < xs.length) (d : α) : xs.getD n d = xs[n] := by simp [List.getD_eq_getElem?_getD, h]
theorem pickD_ok {j : Int} {cs : List SC} {us : List Value} {c : SC} (h : pickD j cs = some c) (hr : RepCs P ρ X W cs us) (h0 : 0 ≤ j) (h1 : j < (cs.length : Int)) : ∃ w, us[j.toNat]? = some w ∧ RepC P ρ X W c w := by
  unfold pickD at h
  split at h
  · obtain ⟨xs, hx, rfl⟩ := Option.map_eq_some_iff.1 h
    obtain ⟨e1, e2⟩ := allI_ok hx hr
    have hl : j.toNat < xs.length := by
      have := congrArg List.length e2
      rw [List.length_map] at this
      omega
    refine ⟨_, ?_, repInt.2 rfl⟩
    rw [e1, List.getElem?_map, List.getElem?_eq_getElem hl]
    exact congrArg some (congrArg _ (getD_of hl _).symm)
  · obtain ⟨xs, hx, rfl⟩ := Option.map_eq_some_iff.1 h
    obtain ⟨e1, e2⟩ := allB_ok hx hr
    have hl : j.toNat < xs.length := by
      have := congrArg List.length e2
      rw [List.length_map] at this
      omega
    refine ⟨_, ?_, repBool.2 rfl⟩
    rw [e1, List.getElem?_map, List.getElem?_eq_getElem hl]
    exact congrArg some (congrArg _ (getD_of hl _).symm)
  · cases h
theorem rangeMap {α β : Type} (ys : List α) (d : α) (f : α → β) : ((List.range ys.length).map fun i => f (ys.getD i d)) = ys.map f := by
  apply List.ext_getElem?
  intro i
  rw [List.getElem?_map, List.getElem?_map]
  by_cases hi : i < ys.length
  · rw [List.getElem?_range hi, List.getElem?_eq_getElem hi]
    exact congrArg some (congrArg f (getD_of hi _))
  · rw [List.getElem?_eq_none (by simpa using hi), List.getElem?_eq_none (by simpa using hi)]
    rfl
theorem splice_set {α : Type} (us : List α) (n : Nat) (w : α) (h : n < us.length) : GX.splice us n [w] = us.set n w := by
  unfold GX.splice
  apply List.ext_getElem?
  intro i
  rw [List.append_assoc, List.getElem?_append, List.length_take, Nat.min_eq_left (by omega), List.getElem?_set]
  split
  · rename_i hi
    rw [if_neg (by omega), List.getElem?_take, if_pos hi]
  · rename_i hi
    by_cases e : n = i
    · rw [if_pos e]
      subst e
      simp [h]
    · rw [if_neg e, List.getElem?_append, List.length_singleton, if_neg (by omega), List.getElem?_drop]
      congr 1
      omega
theorem repAllI {k : IntKind} : ∀ xs : List Int, RepCs P ρ X W (xs.map fun x => .d (.int k) x) (xs.map (Value.int k))
  | [] => rfl
  | x :: r => ⟨_, _, rfl, repInt.2 rfl, repAllI r⟩
theorem repAllB : ∀ xs : List Bool, RepCs P ρ X W (xs.map fun x => .d .bool x) (xs.map Value.bool)
  | [] => rfl
  | x :: r => ⟨_, _, rfl, repBool.2 rfl, repAllB r⟩
theorem setD_ok {j : Int} {cs v ds : List SC} {us vs : List Value} (h : setD j cs v = some ds) (hr : RepCs P ρ X W cs us) (hv : RepCs P ρ X W v vs) (h0 : 0 ≤ j) (h1 : j < (cs.length : Int)) : RepCs P ρ X W ds (GX.splice us j.toNat vs) ∧ ds.length = cs.length ∧ vs.length = 1 := by
  unfold setD at h
  split at h
  · rename_i k u
    obtain ⟨xs, hx, rfl⟩ := Option.map_eq_some_iff.1 h
    obtain ⟨e1, e2⟩ := allI_ok hx hr
    obtain ⟨w, vs', rfl, hw, rfl⟩ := hv
    obtain rfl := repInt.1 hw
    have hl : j.toNat < xs.length := by
      have := congrArg List.length e2
      rw [List.length_map] at this
      omega
    have e3 : ((List.range xs.length).map fun i => SC.d (.int k) (List.getD (α := Int) (List.set (α := Int) xs j.toNat u) i u)) = (List.set (α := Int) xs j.toNat u).map fun x => SC.d (.int k) x := by
      have := rangeMap (α := Int) (xs.set j.toNat u) u fun x => SC.d (.int k) x
      rwa [show (List.set (α := Int) xs j.toNat u).length = xs.length from List.length_set] at this
    refine ⟨?_, by rw [List.length_map, List.length_range]; exact (by rw [e2, List.length_map]), rfl⟩
    show RepCs P ρ X W ((List.range xs.length).map fun i => SC.d (.int k) (List.getD (α := Int) (List.set (α := Int) xs j.toNat u) i u)) _
    rw [e3, splice_set _ _ _ (by rw [e1, List.length_map]; exact hl), e1]
    have e4 := List.map_set (f := (Value.int k)) (l := xs) (i := j.toNat) (a := u)
    have e5 := repAllI (P := P) (ρ := ρ) (X := X) (W := W) (k := k) (List.set (α := Int) xs j.toNat u)
    rw [e4] at e5
    exact e5
  · rename_i u
    obtain ⟨xs, hx, rfl⟩ := Option.map_eq_some_iff.1 h
    obtain ⟨e1, e2⟩ := allB_ok hx hr
    obtain ⟨w, vs', rfl, hw, rfl⟩ := hv
    obtain rfl := repBool.1 hw
    have hl : j.toNat < xs.length := by
      have := congrArg List.length e2
      rw [List.length_map] at this
      omega
    have e3 : ((List.range xs.length).map fun i => SC.d .bool (List.getD (α := Bool) (List.set (α := Bool) xs j.toNat u) i u)) = (List.set (α := Bool) xs j.toNat u).map fun x => SC.d .bool x := by
      have := rangeMap (α := Bool) (xs.set j.toNat u) u fun x => SC.d .bool x
      rwa [show (List.set (α := Bool) xs j.toNat u).length = xs.length from List.length_set] at this
    refine ⟨?_, by rw [List.length_map, List.length_range]; exact (by rw [e2, List.length_map]), rfl⟩
    show RepCs P ρ X W ((List.range xs.length).map fun i => SC.d .bool (List.getD (α := Bool) (List.set (α := Bool) xs j.toNat u) i u)) _
    rw [e3, splice_set _ _ _ (by rw [e1, List.length_map]; exact hl), e1]
    have e4 := List.map_set (f := Value.bool) (l := xs) (i := j.toNat) (a := u)
    have e5 := repAllB (P := P) (ρ := ρ) (X := X) (W := W) (List.set (α := Bool) xs j.toNat u)
    rw [e4] at e5
    exact e5
  · cases h

theorem RepCs.of_cells : ∀ (K : Kd) {x : K.T} {vs}, (K.sem P).cells X W x vs → RepCs P ρ X W (K.fl x) vs
  | .int _, _, _, h => let ⟨v, hv, h1, hr⟩ := h; ⟨v, [], hv, ⟨v, rfl, h1, hr⟩, rfl⟩
  | .bool, _, _, h => let ⟨v, hv, h1, hr⟩ := h; ⟨v, [], hv, ⟨v, rfl, h1, hr⟩, rfl⟩
  | .str, _, _, h => let ⟨v, hv, h1, hr⟩ := h; ⟨v, [], hv, ⟨v, rfl, h1, hr⟩, rfl⟩
  | .sl _ _, _, _, h => let ⟨v, hv, h1, hr⟩ := h; ⟨v, [], hv, ⟨v, rfl, h1, hr⟩, rfl⟩
  | .nsl _ _, _, _, h => let ⟨v, hv, h1, hr⟩ := h; ⟨v, [], hv, ⟨v, rfl, h1, hr⟩, rfl⟩
  | .fn _ _, _, _, h => let ⟨v, hv, h1, hr⟩ := h; ⟨v, [], hv, ⟨v, rfl, h1, hr⟩, rfl⟩
  | .ptr _ _, _, _, h => let ⟨v, hv, h1, hr⟩ := h; ⟨v, [], hv, ⟨v, rfl, h1, hr⟩, rfl⟩
  | .seq _, _, _, h => let ⟨v, hv, h1, hr⟩ := h; ⟨v, [], hv, ⟨v, rfl, h1, hr⟩, rfl⟩
  | .pair A B, x, _, ⟨c1, c2, h, h1, h2⟩ => by rw [h]; exact (RepCs.of_cells A h1).append (RepCs.of_cells B h2)
  | .unit, _, _, h => h
  | .agg K, _, _, h => RepCs.of_cells K h

theorem RepV.of_val : ∀ (K : Kd) {x : K.T} {v}, (K.sem P).val X W x v → RepV P ρ X W (mkv K x) v ∧ v.oneCell' = !K.isAgg
  | .int _, _, _, h => ⟨⟨_, rfl, ⟨_, rfl, by rw [show _ = Value.int _ _ from h]; rfl, h⟩⟩, by rw [show _ = Value.int _ _ from h]; rfl⟩
  | .bool, _, _, h => ⟨⟨_, rfl, ⟨_, rfl, by rw [show _ = Value.bool _ from h]; rfl, h⟩⟩, by rw [show _ = Value.bool _ from h]; rfl⟩
  | .str, _, _, h => ⟨⟨_, rfl, ⟨_, rfl, by rw [show _ = Value.string _ from h]; rfl, h⟩⟩, by rw [show _ = Value.string _ from h]; rfl⟩
  | .sl _ _, _, _, h => by
    have h1 : _ := h
    obtain ⟨A, c, hv, _⟩ := h1
    exact ⟨⟨_, rfl, ⟨_, rfl, by rw [hv]; rfl, h⟩⟩, by rw [hv]; rfl⟩
  | .nsl _ K, (x : Option (List K.T)), v, h => by
    have h1 : _ := h
    obtain ⟨h0, h2⟩ := h1
    have : ∃ a n c, v = Value.slice a n c := by
      cases x with
      | none => exact ⟨_, _, _, h0 rfl⟩
      | some xs => obtain ⟨A, c, hv, _⟩ := h2 xs rfl; exact ⟨_, _, _, hv⟩
    obtain ⟨a, n, c, hv⟩ := this
    exact ⟨⟨_, rfl, ⟨_, rfl, by rw [hv]; rfl, h⟩⟩, by rw [hv]; rfl⟩
  | .fn _ _, _, _, h => by
    have h1 : _ := h
    obtain ⟨⟨f, fi, cap, hv⟩, _⟩ := h1
    exact ⟨⟨_, rfl, ⟨_, rfl, by rw [hv]; rfl, h⟩⟩, by rw [hv]; rfl⟩
  | .ptr _ _, _, _, h => by
    have h1 : _ := h
    obtain ⟨b, cs, hv, _⟩ := h1
    exact ⟨⟨_, rfl, ⟨_, rfl, by rw [hv]; rfl, h⟩⟩, by rw [hv]; rfl⟩
  | .seq _, _, _, h => by
    have h1 : _ := h
    obtain ⟨⟨f, fi, cap, hv⟩, _⟩ := h1
    exact ⟨⟨_, rfl, ⟨_, rfl, by rw [hv]; rfl, h⟩⟩, by rw [hv]; rfl⟩
  | .pair A B, _, _, h => h.elim
  | .unit, _, _, h => h.elim
  | .agg K, _, _, ⟨cs, h, h1⟩ => ⟨⟨cs, h, RepCs.of_cells K h1⟩, by rw [h]; rfl⟩

theorem RepT.of_vals : ∀ (K : Kd) {x : K.T} {vs}, (K.sem P).vals X W x vs → RepT P ρ X W (K.comps x) vs
  | .int k, x, _, ⟨v, hv, h⟩ => ⟨v, [], hv, (RepV.of_val (.int k) h).1, rfl⟩
  | .bool, x, _, ⟨v, hv, h⟩ => ⟨v, [], hv, (RepV.of_val .bool h).1, rfl⟩
  | .str, x, _, ⟨v, hv, h⟩ => ⟨v, [], hv, (RepV.of_val .str h).1, rfl⟩
  | .sl e K, x, _, ⟨v, hv, h⟩ => ⟨v, [], hv, (RepV.of_val (.sl e K) h).1, rfl⟩
  | .nsl e K, x, _, ⟨v, hv, h⟩ => ⟨v, [], hv, (RepV.of_val (.nsl e K) h).1, rfl⟩
  | .fn A B, x, _, ⟨v, hv, h⟩ => ⟨v, [], hv, (RepV.of_val (.fn A B) h).1, rfl⟩
  | .ptr t K, x, _, ⟨v, hv, h⟩ => ⟨v, [], hv, (RepV.of_val (.ptr t K) h).1, rfl⟩
  | .seq A, x, _, ⟨v, hv, h⟩ => ⟨v, [], hv, (RepV.of_val (.seq A) h).1, rfl⟩
  | .pair A B, x, _, ⟨v, vs, hv, h, h2⟩ => ⟨v, vs, hv, (RepV.of_val A h).1, RepT.of_vals B h2⟩
  | .unit, x, _, h => h
  | .agg K, x, _, ⟨cs, hv, h⟩ => ⟨.agg cs.toArray, [], hv, ⟨cs, rfl, RepCs.of_cells K h⟩, rfl⟩

theorem RepV.of_ret : ∀ (K : Kd) {x : K.T} {v}, (K.sem P).ret X W x v → RepV P ρ X W (retv K x) v
  | .int k, x, _, h => (RepV.of_val (.int k) h).1
  | .bool, x, _, h => (RepV.of_val .bool h).1
  | .str, x, _, h => (RepV.of_val .str h).1
  | .sl e K, x, _, h => (RepV.of_val (.sl e K) h).1
  | .nsl e K, x, _, h => (RepV.of_val (.nsl e K) h).1
  | .fn A B, x, _, h => (RepV.of_val (.fn A B) h).1
  | .ptr t K, x, _, h => (RepV.of_val (.ptr t K) h).1
  | .seq A, x, _, h => (RepV.of_val (.seq A) h).1
  | .pair A B, x, _, ⟨v, vs, hv, h, h2⟩ => ⟨v :: vs, hv, v, vs, rfl, (RepV.of_val A h).1, RepT.of_vals B h2⟩
  | .unit, x, _, h => ⟨[], h, rfl⟩
  | .agg K, x, _, ⟨cs, hv, h⟩ => ⟨cs, hv, RepCs.of_cells K h⟩

theorem RepV.of_vals : ∀ (K : Kd) {x : K.T} {vs}, (K.sem P).vals X W x vs → (argsSV K x).length = vs.length ∧ ∀ (i : Nat) v, vs[i]? = some v → RepV P ρ X W (tmOf (argsSV K x) i) v
  | .int k, x, _, ⟨v, hv, h⟩ => by subst hv; exact ⟨rfl, fun i u hu => by cases i with | zero => cases hu; exact (RepV.of_val (.int k) h).1 | succ i => simp at hu⟩
  | .bool, x, _, ⟨v, hv, h⟩ => by subst hv; exact ⟨rfl, fun i u hu => by cases i with | zero => cases hu; exact (RepV.of_val .bool h).1 | succ i => simp at hu⟩
  | .str, x, _, ⟨v, hv, h⟩ => by subst hv; exact ⟨rfl, fun i u hu => by cases i with | zero => cases hu; exact (RepV.of_val .str h).1 | succ i => simp at hu⟩
  | .sl e K, x, _, ⟨v, hv, h⟩ => by subst hv; exact ⟨rfl, fun i u hu => by cases i with | zero => cases hu; exact (RepV.of_val (.sl e K) h).1 | succ i => simp at hu⟩
  | .nsl e K, x, _, ⟨v, hv, h⟩ => by subst hv; exact ⟨rfl, fun i u hu => by cases i with | zero => cases hu; exact (RepV.of_val (.nsl e K) h).1 | succ i => simp at hu⟩
  | .fn A B, x, _, ⟨v, hv, h⟩ => by subst hv; exact ⟨rfl, fun i u hu => by cases i with | zero => cases hu; exact (RepV.of_val (.fn A B) h).1 | succ i => simp at hu⟩
  | .ptr t K, x, _, ⟨v, hv, h⟩ => by subst hv; exact ⟨rfl, fun i u hu => by cases i with | zero => cases hu; exact (RepV.of_val (.ptr t K) h).1 | succ i => simp at hu⟩
  | .seq A, x, _, ⟨v, hv, h⟩ => by subst hv; exact ⟨rfl, fun i u hu => by cases i with | zero => cases hu; exact (RepV.of_val (.seq A) h).1 | succ i => simp at hu⟩
  | .agg K, x, _, ⟨cs, hv, h⟩ => by subst hv; exact ⟨rfl, fun i u hu => by cases i with | zero => cases hu; exact ⟨cs, rfl, RepCs.of_cells K h⟩ | succ i => simp at hu⟩
  | .unit, x, _, h => by simp only [Kd.sem] at h; subst h; exact ⟨rfl, fun i u hu => by simp at hu⟩
  | .pair A B, x, _, ⟨v, vs, hv, h, h2⟩ => by
    subst hv
    obtain ⟨hl, hg⟩ := RepV.of_vals B h2
    refine ⟨by simp [argsSV, hl], fun i u hu => ?_⟩
    cases i with
    | zero => cases hu; exact (RepV.of_val A h).1
    | succ i => exact hg i u (by simpa using hu)
end
end Go.GX
