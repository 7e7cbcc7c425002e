/- Part 2 of the texts behind the proof: Gx6, Gx7, Gx8, Gx9, Gx10. -/
import Derived.Test.YtgcgakefjfhnkaaG01
import Derived.TacticsIn
import Derived.RangeFuncCalls
import Derived.Laws.Small
import Derived.Laws.Slices
import Derived.Laws.Rows
import Derived.Laws.Cover3
import Derived.Laws.StructEq
import Derived.Shelf.Abstract
import Derived.ChangeKeysEq
import Derived.Laws.OwnMore
set_option linter.unusedSimpArgs false
set_option linter.unusedVariables false
set_option linter.unusedSectionVars false
set_option linter.unusedVariables false
namespace Go.GX
variable [Inhabited BaseD]
open Go.RowKit Go.Shelf Go.Proofs

section
variable (P : Program)

def frX (fresh : Bool) (X : Nat → Prop) (W : World) (k : Nat) : Prop :=
  match fresh with
  | true => k < W.heap.size
  | false => X k

theorem Post.weak {R : Kd} {fr : Bool} {X : Nat → Prop} {W : World} {Q : R.T → Prop} (hX : ∀ k, X k → k < W.heap.size) {e : Ending} {w' : World} (h : Post (R.sem P) (frX fr X W) W Q e w') : Post (R.sem P) X W Q e w' := by
  cases fr with
  | false => exact h
  | true =>
    obtain ⟨r, v, h1, h2, h3, h4⟩ := h
    exact ⟨r, v, h1, (Kd.stands P R).ret (Evo.mono (fun k hk => Nat.lt_of_lt_of_le (hX k hk) h3.size) (fun k hk => hX k hk)) h2, h3, h4⟩

def MkOK (f : FuncId) (ty : TypeId) (g : FuncId) : Prop :=
  Enters P f ∧ ∀ (W : World) (v : Value), Calls P f #[v] W fun e w' => ∃ b, e = .returned (.func (.func g) #[] #[.pointer (some ⟨b, 0, none⟩)]) ∧ W.heap.size ≤ b ∧ w'.heap[b]? = some (.cells v.cells ty (0, 0)) ∧ Below W.heap.size W w'

def slOwn (w' : World) (e : TypeId) : (K : Kd) → List K.T → Value → List Nat → Prop
  | .sl e1 K1, xs, v, fp => ∃ us : List Value, MatOK P w' e e1 K1 xs none us v ∧ fp = v.ownBlock.toList ++ us.flatMap fun u => u.ownBlock.toList
  | .agg (.sl e1 K1), xs, v, fp => ∃ us : List Value, MatOK P w' e e1 K1 xs none us v ∧ fp = v.ownBlock.toList ++ us.flatMap fun u => u.ownBlock.toList
  | K, xs, v, fp => InRow P w' e K xs v ∧ K.flat = true ∧ 0 < K.n ∧ fp = v.ownBlock.toList

def flOwn (w' : World) : (K : Kd) → K.T → List Value → List Nat → Prop
  | .pair A B, x, cs, fp => ∃ c1 c2 f1 f2, cs = c1 ++ c2 ∧ fp = f1 ++ f2 ∧ flOwn w' A x.1 c1 f1 ∧ flOwn w' B x.2 c2 f2
  | .agg K, x, cs, fp => flOwn w' K x cs fp
  | .sl e K, xs, cs, fp => ∃ v, cs = [v] ∧ (∃ A n c, v = .slice A n c) ∧ slOwn P w' e K xs v fp
  | K, x, cs, fp => (K.sem P).cells (fun _ => False) w' x cs ∧ fp = []

def valOwn (w' : World) (K : Kd) (x : K.T) (v : Value) (fp : List Nat) : Prop :=
  match K.isAgg with
  | true => ∃ cs : List Value, v = .agg cs.toArray ∧ flOwn P w' K x cs fp
  | false => flOwn P w' K x [v] fp

def valsOwn (w' : World) : (K : Kd) → K.T → List Value → List Nat → Prop
  | .pair A B, x, vs, fp => ∃ v vs' f1 f2, vs = v :: vs' ∧ fp = f1 ++ f2 ∧ valOwn P w' A x.1 v f1 ∧ valsOwn w' B x.2 vs' f2
  | .unit, _, vs, fp => vs = [] ∧ fp = []
  | K, x, vs, fp => ∃ v, vs = [v] ∧ valOwn P w' K x v fp

def retOwn (w' : World) (R : Kd) (r : R.T) (v : Value) (fp : List Nat) : Prop :=
  match R, r with
  | .pair A B, r => ∃ vs : List Value, v = .tuple vs.toArray ∧ valsOwn P w' (.pair A B) r vs fp
  | .unit, _ => v = .tuple #[] ∧ fp = []
  | R, r => valOwn P w' R r v fp

def PostO (R : Kd) (w : World) (Q : R.T → Prop) : Ending → World → Prop :=
  fun e w' => ∃ r v fp, e = .returned v ∧ retOwn P w' R r v fp ∧ fp.Nodup ∧ (∀ k, k ∈ fp → w.heap.size ≤ k) ∧ BelM w w' ∧ Q r

def PostM (own fresh : Bool) (R : Kd) (X : Nat → Prop) (w : World) (Q : R.T → Prop) : Ending → World → Prop :=
  match own with
  | true => PostO P R w Q
  | false => Post (R.sem P) (frX fresh X w) w Q

def InlOK (f : FuncId) : Prop :=
  Enters P f ∧ ∀ (W : World) (v : Value), v.oneCell' = true → Calls P f #[v] W fun e w' => e = .returned (.agg #[v]) ∧ Below W.heap.size W w'

def ClipOK (f : FuncId) : Prop :=
  Enters P f ∧ ∀ (W : World) (A : Option Addr) (n c : Nat), n ≤ c → Calls P f #[.slice A n c] W fun e w' => (∃ A', e = .returned (.slice A' n n) ∧ (0 < n → A' = A)) ∧ Below W.heap.size W w'

structure CallsOK (glb : Nat → Option GV) (f : FuncId) (c : Ct) : Prop where
  enters : Enters P f
  calls : ∀ (X : Nat → Prop) (W : World) (x : c.A.T) (y : c.C.T) (vs cs : List Value), (∀ k, X k → k < W.heap.size) → GlbOK P glb X W → (c.A.sem P).vals X W x vs → (c.C.sem P).vals X W y cs →
    ∀ Q : c.R.T → Prop, c.wp x y Q → Calls P f (vs ++ cs).toArray W (PostM P c.own c.fresh c.R X W Q)

def PostW (e : TypeId) (K R : Kd) (w : World) (v : Value) (Q : R.T → List K.T → Prop) : Ending → World → Prop :=
  fun en w' => ∃ r u zs, en = .returned u ∧ (R.sem P).ret (fun _ => False) w' r u ∧ InRow P w' e K zs v ∧ w.grownBy w' v.ownBlock ∧ Q r zs

structure CallsW (glb : Nat → Option GV) (f : FuncId) (c : CtW) : Prop where
  enters : Enters P f
  calls : ∀ (X : Nat → Prop) (W : World) (ys : List c.K.T) (v : Value) (x : c.A.T) (y : c.C.T) (vs cs : List Value), (∀ k, X k → k < W.heap.size) → (∀ k, v.ownBlock = some k → X k) → GlbOK P glb X W → InRow P W c.e c.K ys v → 0 < c.K.n → c.K.flat = true → (c.A.sem P).vals X W x vs → (c.C.sem P).vals X W y cs →
    ∀ Q : c.R.T → List c.K.T → Prop, c.wp ys x y Q → Calls P f (v :: vs ++ cs).toArray W (PostW P c.e c.K c.R W v Q)

def PostH (e : TypeId) (K : Kd) (w : World) (v : Value) (Q : List K.T → Prop) : Ending → World → Prop :=
  fun en w' => ∃ u zs, en = .returned u ∧ InRow P w' e K zs u ∧ (∃ A n c, u = .slice A n c) ∧ (∀ k, u.ownBlock = some k → v.ownBlock = some k ∨ w.heap.size ≤ k) ∧ w.grownBy w' v.ownBlock ∧ Q zs

structure CallsH (glb : Nat → Option GV) (f : FuncId) (c : CtH) : Prop where
  enters : Enters P f
  calls : ∀ (X : Nat → Prop) (W : World) (ys : List c.K.T) (v : Value) (x : c.A.T) (y : c.C.T) (vs cs : List Value), (∀ k, X k → k < W.heap.size) → (∀ k, v.ownBlock = some k → X k) → GlbOK P glb X W → InRow P W c.e c.K ys v → 0 < c.K.n → c.K.flat = true → (c.A.sem P).vals X W x vs → (c.C.sem P).vals X W y cs →
    ∀ Q : List c.K.T → Prop, c.wp ys x y Q → Calls P f (v :: vs ++ cs).toArray W (PostH P c.e c.K W v Q)

def ItmOK (glb : Nat → Option GV) (f : FuncId) (it : ItM) : Prop :=
  ∀ (X : Nat → Prop) (W : World) (x : it.A.T) (v : Value), (∀ k, X k → k < W.heap.size) → GlbOK P glb X W → it.pre x → (it.A.sem P).val X W x v → ((Kd.seq it.E).sem P).val X W (it.xs x) (.func (.func f) #[v] #[])

def notAggZ (P : Program) (t : TypeId) : Bool :=
  match P.info? t with
  | some inf => match inf.zero with
    | some (.agg _) => false
    | some _ => true
    | none => false
  | none => false

structure KeyOK (t : TypeId) (p : TypeId × TypeId) : Prop where
  u : P.underlying t = some (.map p.1 p.2)
  check : ∀ (w : World) (em : Bool) (k : memoKeyK.T), (Instr.checkKey em 10000 p.1 (.agg (memoKeyK.fc k).toArray)).run P w = .ok () w
  find : ∀ (w : World) (k : memoKeyK.T) (es : List MapEntry), (∀ e ∈ es, ∃ k' val, e.key = .agg (memoKeyK.fc k').toArray ∧ e.val = .int .i64 val) →
    ((Instr.findKey p.1 (.agg (memoKeyK.fc k).toArray) es).run P w = .ok none w) ∨ ∃ j e, (Instr.findKey p.1 (.agg (memoKeyK.fc k).toArray) es).run P w = .ok (some (j, e.val)) w ∧ es[j]? = some e ∧ e.key = .agg (memoKeyK.fc k).toArray
  stays : ∀ (w : World) (k : memoKeyK.T), (Instr.keyThatStays (.agg (memoKeyK.fc k).toArray) (.agg (memoKeyK.fc k).toArray)).run P w = .ok (.agg (memoKeyK.fc k).toArray) w
  zero : ∀ w : World, (zeroValue p.2).run P w = .ok (.int .i64 0) w

structure CtOK (glb : Nat → Option GV) (S : Stat) : Prop where
  ct : ∀ f c, S.ct f = some c → CallsOK P glb f c
  mkr : ∀ f p, S.mkr f = some p → MkOK P f p.1 p.2
  inl : ∀ f, S.inl f = true → InlOK P f
  clip : ∀ f, S.clip f = true → ClipOK P f
  io : ∀ f c, S.io f = some c → CallsW P glb f c
  itm : ∀ f it, S.itm f = some it → ItmOK P glb f it
  hov : ∀ f c, S.hov f = some c → CallsH P glb f c

def eqNs (P : Program) (F : TypeId → Option Nat) : List Field → Nat → Option Nat
  | [], i => some i
  | f :: r, i => match F f.type with
    | some c => cond ((f.name != "_") && Nat.beq f.offset i && Nat.beq (P.cellsOf f.type) c && (P.info? f.type).isSome) (eqNs P F r (i + c)) none
    | none => none
def eqN (P : Program) : Nat → TypeId → Option Nat
  | 0, _ => none
  | d + 1, t => match P.underlying t with
    | some (.int _) => some 1
    | some (.array m e) => match eqN P d e with
      | some c => cond ((P.info? e).isSome && Nat.beq (P.cellsOf e) c) (some (m * c)) none
      | none => none
    | some (.struct fs) => cond (P.stoodInHeld t) none (eqNs P (eqN P d) fs.toList 0)
    | _ => none
def aggT (P : Program) (t : TypeId) : Bool :=
  match P.underlying t with
  | some (.struct _) => true
  | some (.array _ _) => true
  | _ => false
structure StatOK (S : Stat) : Prop where
  mixed : P.follows .mixedOrders = true
  ty : ∀ t i, S.ty t = some i → i.kd.arg = true ∧ (∃ inf z, P.info? t = some inf ∧ inf.size = i.kd.n ∧ inf.bytes = i.bytes ∧ inf.zero = some z ∧ z.cells.toList = i.kd.zv) ∧ ∀ w, (Go.isAgg t).run P w = .ok i.kd.isAgg w
  sl : ∀ t e, S.sl t = some e → P.underlying t = some (.slice e)
  mp : ∀ t p, S.mp t = some p → KeyOK P t p
  eq : ∀ t n, S.eq t = some n → (∃ fs, P.underlying t = some (.struct fs) ∧ fs.size = n ∧ P.stoodInHeld t = false ∧ P.eqGuardType P.depth t = false ∧ ∀ (i : Nat) fd, fs[i]? = some fd → fd.name ≠ "_" ∧ fd.offset = i ∧ ∃ k, P.underlying fd.type = some (.int k)) ∨ (∃ e i k, P.underlying t = some (.array n e) ∧ P.info? e = some i ∧ P.cellsOf e = 1 ∧ P.eqGuardType P.depth t = false ∧ P.underlying e = some (.int k)) ∨ (eqN P 20 t = some n ∧ P.eqGuardType P.depth t = false ∧ aggT P t = true)
  int : ∀ t k b, S.ty t = some ⟨.int k, b⟩ → P.underlying t = some (.int k)
  dfd : ∀ t i, S.ty t = some i → (P.underlying t).isSome = true
  bool : ∀ t b, S.ty t = some ⟨.bool, b⟩ → P.underlying t = some .bool
  str : ∀ t b, S.ty t = some ⟨.str, b⟩ → P.underlying t = some .string
  fld : ∀ t f p, S.fld t f = some p → ∃ fs fd, P.underlying t = some (.struct fs) ∧ fs[f]? = some fd ∧ fd.offset = p.1 ∧ fd.type = p.2 ∧ ∀ fd', fd' ∈ fs → (P.info? fd'.type).isSome = true
  arr : ∀ t p, S.arr t = some p → P.underlying t = some (.array p.1 p.2)
  mpi : ∀ t p, S.mpi t = some p → memoOn = false ∧ P.underlying t = some (.map p.1 p.2) ∧ notAggZ P p.2 = true
end

def Xl (st : St) (ρ : Lab) (X0 : Nat → Prop) (Z : Nat → Bool) (k : Nat) : Prop :=
  X0 k ∨ ∃ l he s v, Z l = false ∧ st.hp l = some (he, s) ∧ ρ l = some v ∧ OwnB ρ he v k

section
variable {P : Program} {glb : Nat → Option GV} {Bk X0 : Nat → Prop} {w0 : World} {st st' : St} {ρ ρ' : Lab} {a : Act} {W W' : World} {S : Stat} {Z : Nat → Bool}

theorem Xl.sub {k : Nat} (h : Xl st ρ X0 Z k) : Xs st ρ X0 k := by
  rcases h with h | ⟨l, he, s, v, _, h1, h2, h3⟩
  · exact .inl h
  · exact .inr ⟨l, he, s, v, h1, h2, h3⟩

theorem Mt.evoZ (m : Mt P glb Bk X0 w0 st ρ a W) (Z : Nat → Bool) : Evo (Xs st ρ X0) W (Xl st ρ X0 Z) W :=
  Evo.mono (fun k hk => m.Xlt k hk.sub) (fun k hk => hk.sub)

theorem Mt.notXl (m : Mt P glb Bk X0 w0 st ρ a W) {l : Nat} {he : HE} {s : Nat} {v : Value} {k : Nat} (h1 : st.hp l = some (he, s)) (h2 : ρ l = some v) (h3 : OwnB ρ he v k) (hZ : Z l = true) : ¬ Xl st ρ X0 Z k := by
  rintro (h | ⟨l', he', s', v', hz, g1, g2, g3⟩)
  · exact (m.nb l he s v k h1 h2 h3).2 h
  · have := m.dis l l' he he' s s' v v' k h1 g1 h2 g2 h3 g3
    subst this
    rw [hZ] at hz
    cases hz

theorem look_some {l : Nat} {h : HE} (hl : st.look l = some h) : ∃ s, st.hp l = some (h, s) := by
  unfold St.look at hl
  cases hh : st.hp l with
  | none => rw [hh] at hl; cases hl
  | some p => rw [hh] at hl; obtain ⟨h', s⟩ := p; simp at hl; subst hl; exact ⟨s, rfl⟩

theorem Mt.rowVal (m : Mt P glb Bk X0 w0 st ρ a W) {l : Nat} {nn : Bool} {e e' : TypeId} {K : Kd} {xs : List K.T} {s : Nat} {v : Value} (h1 : st.hp l = some (.row nn e K xs, s)) (h2 : ρ l = some v) (hZ : Z l = true) :
    ((Kd.sl e' K).sem P).val (Xl st ρ X0 Z) W xs v ∧ (nn = true → ∃ a n c, v = .slice (some a) n c) := by
  obtain ⟨v', hv', hok⟩ := m.hps l _ s h1
  rw [h2] at hv'; injection hv' with hv'; subst hv'
  obtain ⟨h0, ⟨flat, ho, hc⟩, hnn⟩ := hok
  refine ⟨?_, hnn⟩
  obtain ⟨g1, g2⟩ := ho
  rcases g2 with ⟨rfl, hx⟩ | ⟨g, cap, cur, rfl, k1, k2, k3, k4, k5, k6⟩
  · obtain rfl : xs = [] := List.eq_nil_of_length_eq_zero hx
    exact ⟨none, 0, rfl, Nat.le_refl _, by unfold maxLen; omega, fun h => absurd rfl h⟩
  · refine ⟨some ⟨g, 0, none⟩, cap, rfl, k3, k4, fun _ => ⟨_, rfl, m.notXl h1 h2 (.inl rfl) hZ, (Array.getElem?_eq_some_iff.1 k2).1, fun j x hj => ?_⟩⟩
    refine ⟨_, (Kd.stands P K).cells (m.evoZ Z) (hc j x hj), fun i u hu => ?_⟩
    rw [List.getElem?_take] at hu
    split at hu
    · rw [List.getElem?_drop] at hu
      have ho' : W.ownsRow 0 e K.n (.slice (some ⟨g, 0, none⟩) xs.length cap) xs.length flat := ⟨g1, .inr ⟨g, cap, cur, rfl, k1, k2, k3, k4, k5, k6⟩⟩
      exact ho'.cells rfl (j * K.n + i) u hu
    · cases hu

theorem Mt.lnVal (m : Mt P glb Bk X0 w0 st ρ a W) {l : Nat} {e e' : TypeId} {K : Kd} {xs : List K.T} {s : Nat} {v : Value} (h1 : st.hp l = some (.ln e K xs, s)) (h2 : ρ l = some v) (hZ : Z l = true) :
    ((Kd.sl e' K).sem P).val (Xl st ρ X0 Z) W xs v := by
  obtain ⟨v', hv', hok⟩ := m.hps l _ s h1
  rw [h2] at hv'; injection hv' with hv'; subst hv'
  obtain ⟨hf, A, c, rfl, g1, g2, g3⟩ := hok
  refine ⟨A, c, rfl, g1, g2, fun hne => ?_⟩
  cases xs with
  | nil => exact absurd rfl hne
  | cons x xs =>
    obtain ⟨ad, rfl, ⟨cs, t, fr, hc⟩, hg⟩ := g3 (by simp)
    refine ⟨ad, rfl, m.notXl h1 h2 (.inl rfl) hZ, (Array.getElem?_eq_some_iff.1 hc).1, fun j y hy => ?_⟩
    obtain ⟨ecs, k1, k2⟩ := hg j y hy
    exact ⟨ecs, Kd.flat_cells P K hf k1, k2⟩

theorem elX_cells {X : Nat → Prop} {ag : Bool} {e1 : TypeId} {K1 : Kd} {x : List K1.T} {v : Value} (h : ((Kd.sl e1 K1).sem P).val X W x v) : ((elK ag e1 K1).sem P).cells X W (elX ag e1 K1 x) [v] := by
  have : ((Kd.sl e1 K1).sem P).cells X W x [v] := by
    have h1 : _ := h
    obtain ⟨A, c, hv, _⟩ := h1
    exact ⟨v, rfl, by rw [hv]; rfl, h⟩
  cases ag <;> exact this

theorem elK_n {ag : Bool} {e1 : TypeId} {K1 : Kd} : (elK ag e1 K1).n = 1 := by cases ag <;> rfl

theorem inRow_val {X : Nat → Prop} {e1 e' : TypeId} {K1 : Kd} {xr : List K1.T} {u : Value} (hf : K1.flat = true) (h : InRow P W e1 K1 xr u) (hX : ∀ k, u.ownBlock = some k → ¬ X k) : ((Kd.sl e' K1).sem P).val X W xr u := by
  obtain ⟨fl, ho, hc⟩ := h
  obtain ⟨g1, g2⟩ := ho
  rcases g2 with ⟨rfl, hx⟩ | ⟨g, cap, cur, rfl, k1, k2, k3, k4, k5, k6⟩
  · obtain rfl : xr = [] := List.eq_nil_of_length_eq_zero hx
    exact ⟨none, 0, rfl, Nat.le_refl _, by unfold maxLen; omega, fun h => absurd rfl h⟩
  · refine ⟨some ⟨g, 0, none⟩, cap, rfl, k3, k4, fun _ => ⟨_, rfl, hX g rfl, (Array.getElem?_eq_some_iff.1 k2).1, fun j x hj => ?_⟩⟩
    refine ⟨_, Kd.flat_cells P K1 hf (hc j x hj), fun i u hu => ?_⟩
    rw [List.getElem?_take] at hu
    split at hu
    · rw [List.getElem?_drop] at hu
      have ho' : W.ownsRow 0 e1 K1.n (.slice (some ⟨g, 0, none⟩) xr.length cap) xr.length fl := ⟨g1, .inr ⟨g, cap, cur, rfl, k1, k2, k3, k4, k5, k6⟩⟩
      exact ho'.cells rfl (j * K1.n + i) u hu
    · cases hu

theorem mat_val {X : Nat → Prop} {e e' : TypeId} {ag : Bool} {e1 : TypeId} {K1 : Kd} {xs : List (List K1.T)} {us : List Value} {v : Value} (m : MatOK P W e e1 K1 xs none us v)
    (h0 : ∀ k, v.ownBlock = some k → ¬ X k) (h1 : ∀ (j : Nat) u k, us[j]? = some u → u.ownBlock = some k → ¬ X k) : ((Kd.sl e' (elK ag e1 K1)).sem P).val X W (xs.map (elX ag e1 K1)) v := by
  obtain ⟨hd, ⟨g1, g2⟩, hh⟩ := m.out
  rcases g2 with ⟨rfl, hx⟩ | ⟨g, cap, cur, rfl, k1, k2, k3, k4, k5, k6⟩
  · obtain rfl : xs = [] := List.eq_nil_of_length_eq_zero hx
    exact ⟨none, 0, rfl, Nat.le_refl _, by unfold maxLen; omega, fun h => absurd rfl h⟩
  · refine ⟨some ⟨g, 0, none⟩, cap, by simp, by simpa using k3, k4, fun _ => ⟨_, rfl, h0 g rfl, (Array.getElem?_eq_some_iff.1 k2).1, fun j x hj => ?_⟩⟩
    rw [List.getElem?_map] at hj
    cases hxj : xs[j]? with
    | none => rw [hxj] at hj; cases hj
    | some xr =>
      rw [hxj] at hj
      cases hj
      have hlt : j < us.length := by rw [m.len]; exact (List.getElem?_eq_some_iff.1 hxj).1
      have huj : us[j]? = some us[j] := List.getElem?_eq_getElem hlt
      refine ⟨[us[j]], elX_cells (inRow_val m.flat (m.inr j _ xr huj hxj rfl) (fun k hk => h1 j _ k huj hk)), fun i u hu => ?_⟩
      cases i with
      | succ i => simp at hu
      | zero =>
        simp only [List.getElem?_cons_zero, Option.some.injEq] at hu
        subst hu
        rw [elK_n]
        have ho' : W.ownsRow 0 e 1 (.slice (some ⟨g, 0, none⟩) xs.length cap) xs.length hd := ⟨g1, .inr ⟨g, cap, cur, rfl, k1, k2, k3, k4, k5, k6⟩⟩
        have := ho'.cells rfl j _ (hh j _ huj rfl)
        simpa using this

theorem Mt.matVal (m : Mt P glb Bk X0 w0 st ρ a W) {l : Nat} {nn : Bool} {e e' : TypeId} {ag : Bool} {e1 : TypeId} {K1 : Kd} {xs : List (List K1.T)} {vl s : Nat} {v : Value} (h1 : st.hp l = some (.mat nn e ag e1 K1 xs none vl, s)) (h2 : ρ l = some v) (hZ : Z l = true) :
    ((Kd.sl e' (elK ag e1 K1)).sem P).val (Xl st ρ X0 Z) W (xs.map (elX ag e1 K1)) v ∧ (nn = true → ∃ a n c, v = .slice (some a) n c) := by
  obtain ⟨v', hv', hok⟩ := m.hps l _ s h1
  rw [h2] at hv'; injection hv' with hv'; subst hv'
  obtain ⟨⟨us, hu, mo⟩, hnn⟩ := hok
  exact ⟨mat_val mo (fun k hk => m.notXl h1 h2 ((mat_own hu).2 (.inl hk)) hZ) (fun j u k hj hk => m.notXl h1 h2 ((mat_own hu).2 (.inr ⟨j, u, rfl, hj, hk⟩)) hZ), hnn⟩

theorem tuple_inj {us us' : List Value} (h : (some (Value.tuple us.toArray) : Option Value) = some (.tuple us'.toArray)) : us = us' := by
  injection h with h; injection h with h
  simpa using h

theorem Mt.innVal (m : Mt P glb Bk X0 w0 st ρ a W) {l : Nat} {nn : Bool} {e e' : TypeId} {ag : Bool} {e1 : TypeId} {K1 : Kd} {xs : List (List K1.T)} {vl s : Nat} {us : List Value} {j : Nat} {u : Value} (h1 : st.hp l = some (.mat nn e ag e1 K1 xs none vl, s)) (hu : ρ vl = some (.tuple us.toArray)) (hj : us[j]? = some u) (hZ : Z l = true) :
    ((Kd.sl e' K1).sem P).val (Xl st ρ X0 Z) W (xs.getD j []) u := by
  obtain ⟨v, hv, hok⟩ := m.hps l _ s h1
  obtain ⟨⟨us', hu', mo⟩, hnn⟩ := hok
  rw [hu] at hu'
  obtain rfl := tuple_inj hu'
  have hlt : j < xs.length := by rw [← mo.len]; exact (List.getElem?_eq_some_iff.1 hj).1
  have hxj : xs[j]? = some (xs.getD j []) := by rw [List.getD_eq_getElem?_getD, List.getElem?_eq_getElem hlt]; rfl
  exact inRow_val mo.flat (mo.inr j u _ hj hxj rfl) (fun k hk => m.notXl h1 hv ((mat_own hu).2 (.inr ⟨j, u, rfl, hj, hk⟩)) hZ)

theorem cells_of_val {K : Kd} {X : Nat → Prop} {x : K.T} {v : Value} (h : (K.sem P).val X W x v) (ha : K.isAgg = false) : (K.sem P).cells X W x [v] := by
  have h1 := (RepV.of_val (ρ := fun _ => none) K h).2
  rw [ha] at h1
  cases K <;> first | exact ⟨v, rfl, h1, h⟩ | exact h.elim | simp [Kd.isAgg] at ha

theorem val_of_cells {K : Kd} {X : Nat → Prop} {x : K.T} {v : Value} (h : (K.sem P).cells X W x [v]) (ha : K.isAgg = false) (hb : K.arg = true) : (K.sem P).val X W x v := by
  cases K <;> first | simp [Kd.arg] at hb; done | simp [Kd.isAgg] at ha; done | (obtain ⟨v', hv, _, hr⟩ := h; cases hv; exact hr)

def D1ok (P : Program) (ρ : Lab) (X Xz : Nat → Prop) (W : World) (Z : Nat → Bool) (d1 : (K : Kd) → SC → Option (K.T × List Nat)) : Prop :=
  ∀ (K : Kd) c x ls v, d1 K c = some (x, ls) → RepC P ρ X W c v → (∀ l, l ∈ ls → Z l = true) → (K.sem P).cells Xz W x [v]

theorem decs_ok {X Xz : Nat → Prop} {d1 : (K : Kd) → SC → Option (K.T × List Nat)} (H : D1ok P ρ X Xz W Z d1) : ∀ (K : Kd) (cs : List SC) (x : K.T) (r : List SC) (ls : List Nat) (vs : List Value),
    decs d1 K cs = some (x, r, ls) → RepCs P ρ X W cs vs → (∀ l, l ∈ ls → Z l = true) → ∃ v1 v2, vs = v1 ++ v2 ∧ (K.sem P).cells Xz W x v1 ∧ RepCs P ρ X W r v2 := by
  have one : ∀ (K : Kd) (c : SC) (cs : List SC) (x : K.T) (r : List SC) (ls : List Nat) (vs : List Value), decOne (d1 K) (c :: cs) = some (x, r, ls) → RepCs P ρ X W (c :: cs) vs → (∀ l, l ∈ ls → Z l = true) →
      ∃ v1 v2, vs = v1 ++ v2 ∧ (K.sem P).cells Xz W x v1 ∧ RepCs P ρ X W r v2 := by
    intro K c cs x r ls vs h hv hz
    obtain ⟨v, vs', rfl, h1, h2⟩ := hv
    simp only [decOne] at h
    cases hd : d1 K c with
    | none => rw [hd] at h; cases h
    | some p =>
      obtain ⟨y, l⟩ := p
      rw [hd] at h
      cases h
      exact ⟨[v], vs', rfl, H K c _ _ v hd h1 hz, h2⟩
  intro K
  induction K with
  | pair A B ihA ihB =>
    intro cs x r ls vs h hv hz
    simp only [decs] at h
    cases h1 : decs d1 A cs with
    | none => rw [h1] at h; cases h
    | some p =>
      obtain ⟨x1, r1, l1⟩ := p
      rw [h1] at h
      simp only at h
      cases h2 : decs d1 B r1 with
      | none => rw [h2] at h; cases h
      | some q =>
        obtain ⟨x2, r2, l2⟩ := q
        rw [h2] at h
        cases h
        obtain ⟨v1, v2, rfl, c1, c2⟩ := ihA cs x1 r1 l1 vs h1 hv (fun l hl => hz l (List.mem_append.2 (.inl hl)))
        obtain ⟨v3, v4, rfl, c3, c4⟩ := ihB r1 _ _ _ v2 h2 c2 (fun l hl => hz l (List.mem_append.2 (.inr hl)))
        exact ⟨v1 ++ v3, v4, by simp, ⟨v1, v3, rfl, c1, c3⟩, c4⟩
  | unit =>
    intro cs x r ls vs h hv hz
    cases h
    exact ⟨[], vs, rfl, rfl, hv⟩
  | agg K ih =>
    intro cs x r ls vs h hv hz
    exact ih cs x r ls vs h hv hz
  | int k => intro cs x r ls vs h hv hz; cases cs with | nil => cases h | cons c cs => exact one _ c cs x r ls vs h hv hz
  | bool => intro cs x r ls vs h hv hz; cases cs with | nil => cases h | cons c cs => exact one _ c cs x r ls vs h hv hz
  | str => intro cs x r ls vs h hv hz; cases cs with | nil => cases h | cons c cs => exact one _ c cs x r ls vs h hv hz
  | sl e K ih => intro cs x r ls vs h hv hz; cases cs with | nil => cases h | cons c cs => exact one _ c cs x r ls vs h hv hz
  | nsl e K ih => intro cs x r ls vs h hv hz; cases cs with | nil => cases h | cons c cs => exact one _ c cs x r ls vs h hv hz
  | fn A B ihA ihB => intro cs x r ls vs h hv hz; cases cs with | nil => cases h | cons c cs => exact one _ c cs x r ls vs h hv hz
  | ptr t K ih => intro cs x r ls vs h hv hz; cases cs with | nil => cases h | cons c cs => exact one _ c cs x r ls vs h hv hz
  | seq A ih => intro cs x r ls vs h hv hz; cases cs with | nil => cases h | cons c cs => exact one _ c cs x r ls vs h hv hz
  | mem A ih => intro cs x r ls vs h hv hz; cases cs with | nil => cases h | cons c cs => exact one _ c cs x r ls vs h hv hz

theorem RepCap.sc {X : Nat → Prop} : ∀ {c v}, RepCap P ρ X W c v → RepC P ρ X W c.sc v
  | .l m, v, ⟨h, b, hb⟩ => ⟨b, by rw [h, hb], hb⟩
  | .d t K x, v, h => cells_of_val h rfl

theorem decList_ok {X Xz : Nat → Prop} {d1 : (K : Kd) → SC → Option (K.T × List Nat)} (H : D1ok P ρ X Xz W Z d1) (K : Kd) : ∀ (n : Nat) (cs : List SC) (xs : List K.T) (ls : List Nat) (us : List Value),
    decList d1 K n cs = some (xs, ls) → RepCs P ρ X W cs us → (∀ l, l ∈ ls → Z l = true) → xs.length = n ∧ us.length = n * K.n ∧ ∀ (j : Nat) x, xs[j]? = some x → (K.sem P).cells Xz W x ((us.drop (j * K.n)).take K.n)
  | 0, cs, xs, ls, us, h, hr, hz => by
    cases cs with
    | nil =>
      simp only [decList, Option.some.injEq, Prod.mk.injEq] at h
      obtain ⟨rfl, rfl⟩ := h
      have : us = [] := hr
      subst this
      exact ⟨rfl, by simp, fun j x hx => by simp at hx⟩
    | cons c cs => cases h
  | n + 1, cs, xs, ls, us, h, hr, hz => by
    simp only [decList] at h
    cases h1 : decs d1 K cs with
    | none => rw [h1] at h; cases h
    | some p =>
      obtain ⟨x, r, l⟩ := p
      rw [h1] at h
      simp only at h
      cases h2 : decList d1 K n r with
      | none => rw [h2] at h; cases h
      | some q =>
        obtain ⟨ys, l'⟩ := q
        rw [h2] at h
        cases h
        obtain ⟨v1, v2, rfl, hc, hr2⟩ := decs_ok H K cs x r l us h1 hr (fun i hi => hz i (List.mem_append.2 (.inl hi)))
        obtain ⟨g1, g2, g3⟩ := decList_ok H K n r ys l' v2 h2 hr2 (fun i hi => hz i (List.mem_append.2 (.inr hi)))
        have hl := Kd.cells_length P K hc
        refine ⟨by simp [g1], by simp only [List.length_append, hl, g2, Nat.succ_mul]; omega, fun j y hy => ?_⟩
        cases j with
        | zero =>
          simp only [List.getElem?_cons_zero, Option.some.injEq] at hy
          subst hy
          rw [Nat.zero_mul, List.drop_zero, List.take_left' hl]
          exact hc
        | succ j =>
          have : (v1 ++ v2).drop ((j + 1) * K.n) = v2.drop (j * K.n) := by
            rw [Nat.succ_mul, Nat.add_comm, ← List.drop_drop, List.drop_left' hl]
          rw [this]
          exact g3 j y (by simpa using hy)

theorem capsD_ok {X Xz : Nat → Prop} {d1 : (K : Kd) → SC → Option (K.T × List Nat)} (H : D1ok P ρ X Xz W Z d1) : ∀ (K : Kd) (cs : List Cap) (x : K.T) (ls : List Nat) (vs : List Value),
    capsD d1 K cs = some (x, ls) → RepCaps P ρ X W cs vs → (∀ l, l ∈ ls → Z l = true) → (K.sem P).vals Xz W x vs
  | .unit, [], x, ls, vs, h, hv, hz => hv
  | .pair (.ptr t A) B, c :: r, x, ls, vs, h, ⟨v, vs', hvs, h1, h2⟩, hz => by
    simp only [capsD] at h
    cases hd : d1 (.ptr t A) c.sc with
    | none => rw [hd] at h; cases h
    | some p =>
      obtain ⟨x1, l1⟩ := p
      rw [hd] at h
      simp only at h
      cases hc : capsD d1 B r with
      | none => rw [hc] at h; cases h
      | some q =>
        obtain ⟨x2, l2⟩ := q
        rw [hc] at h
        cases h
        exact ⟨v, vs', hvs, val_of_cells (H _ _ _ _ _ hd h1.sc (fun l hl => hz l (List.mem_append.2 (.inl hl)))) rfl rfl, capsD_ok H B r x2 l2 vs' hc h2 (fun l hl => hz l (List.mem_append.2 (.inr hl)))⟩

def RepVs (P : Program) (ρ : Lab) (X : Nat → Prop) (W : World) : List SV → List Value → Prop
  | [], vs => vs = []
  | s :: r, vs => ∃ v vs', vs = v :: vs' ∧ RepV P ρ X W s v ∧ RepVs P ρ X W r vs'

theorem argVal {X Xz : Nat → Prop} {d1 : (K : Kd) → SC → Option (K.T × List Nat)} (H : D1ok P ρ X Xz W Z d1) {K : Kd} {a : Bool} {cs : List SC} {x : K.T} {ls : List Nat} {v : Value}
    (hk : (a == K.isAgg && K.arg) = true) (hd : decs d1 K cs = some (x, [], ls)) (hv : RepV P ρ X W (.mk a cs) v) (hz : ∀ l, l ∈ ls → Z l = true) : (K.sem P).val Xz W x v := by
  simp only [Bool.and_eq_true, beq_iff_eq] at hk
  obtain ⟨ha, harg⟩ := hk
  cases a with
  | false =>
    obtain ⟨c, rfl, hc⟩ := hv
    obtain ⟨v1, v2, he, h1, h2⟩ := decs_ok H K [c] x [] ls [v] hd ⟨v, [], rfl, hc, rfl⟩ hz
    have : v2 = [] := h2
    subst this
    rw [List.append_nil] at he
    subst he
    exact val_of_cells h1 ha.symm harg
  | true =>
    obtain ⟨vs, rfl, hc⟩ := hv
    obtain ⟨v1, v2, he, h1, h2⟩ := decs_ok H K cs x [] ls vs hd hc hz
    have : v2 = [] := h2
    subst this
    rw [List.append_nil] at he
    subst he
    cases K with
    | agg K => exact ⟨vs, rfl, h1⟩
    | _ => simp [Kd.isAgg] at ha

theorem vals_one {K : Kd} {X : Nat → Prop} {x : K.T} {v : Value} (h : (K.sem P).val X W x v) (hb : K.arg = true) : (K.sem P).vals X W x [v] := by
  cases K with
  | pair A B => simp [Kd.arg] at hb
  | unit => simp [Kd.arg] at hb
  | agg K => obtain ⟨cs, rfl, h1⟩ := h; exact ⟨cs, rfl, h1⟩
  | _ => exact ⟨v, rfl, h⟩

theorem decArgs_ok {X Xz : Nat → Prop} {d1 : (K : Kd) → SC → Option (K.T × List Nat)} (H : D1ok P ρ X Xz W Z d1) : ∀ (K : Kd) (ss : List SV) (x : K.T) (ls : List Nat) (vs : List Value),
    decArgs d1 K ss = some (x, ls) → RepVs P ρ X W ss vs → (∀ l, l ∈ ls → Z l = true) → (K.sem P).vals Xz W x vs := by
  have single : ∀ (K : Kd) (ss : List SV) (x : K.T) (ls : List Nat) (vs : List Value),
      decArg d1 K ss = some (x, ls) → RepVs P ρ X W ss vs → (∀ l, l ∈ ls → Z l = true) → (K.sem P).vals Xz W x vs := by
    intro K ss x ls vs h hv hz
    unfold decArg at h
    split at h
    · rename_i a cs
      obtain ⟨v, vs', rfl, h1, h2⟩ := hv
      have : vs' = [] := h2
      subst this
      split at h
      · rename_i hk
        split at h
        · rename_i y l hd
          cases h
          refine vals_one (argVal H hk hd h1 hz) ?_
          simp only [Bool.and_eq_true] at hk
          exact hk.2
        · cases h
      · cases h
    · cases h
  intro K
  induction K with
  | unit =>
    intro ss x ls vs h hv hz
    cases ss with
    | nil => exact hv
    | cons s r => cases s <;> cases h
  | pair A B ihA ihB =>
    intro ss x ls vs h hv hz
    cases ss with
    | nil => cases h
    | cons s r =>
      cases s with
      | mk a cs =>
        simp only [decArgs] at h
        split at h
        · rename_i hk
          split at h
          · rename_i y l hd
            cases hr : decArgs d1 B r with
            | none => rw [hr] at h; cases h
            | some q =>
              obtain ⟨y2, l2⟩ := q
              rw [hr] at h
              cases h
              obtain ⟨v, vs', rfl, h1, h2⟩ := hv
              exact ⟨v, vs', rfl, argVal H hk hd h1 (fun l hl => hz l (List.mem_append.2 (.inl hl))), ihB r y2 l2 vs' hr h2 (fun l hl => hz l (List.mem_append.2 (.inr hl)))⟩
          · cases h
        · cases h
      | any => cases h
      | tup l => cases h
  | _ => intro ss x ls vs h hv hz; exact single _ ss x ls vs h hv hz

theorem plainAdd (b off i : Nat) : (⟨b, off, none⟩ : Addr).add i = ⟨b, off + i, none⟩ := by
  unfold Addr.add; split <;> simp_all
theorem addAdd (ad : Addr) (i j : Nat) : (ad.add i).add j = ad.add (i + j) := by
  unfold Addr.add
  by_cases hi : i = 0 <;> by_cases hj : j = 0 <;> simp [hi, hj, Nat.add_assoc]
theorem addZero (ad : Addr) : ad.add 0 = ad := by unfold Addr.add; simp

theorem slInt {P : Program} {X : Nat → Prop} {W : World} {e : TypeId} {k : IntKind} {ys : List Int} {v : Value} (h : ∃ A c, v = .slice A ys.length c ∧ ys.length ≤ c ∧ c ≤ maxLen ∧ (ys ≠ [] → ∃ ad, A = some ad ∧ ¬ X ad.block ∧ ad.block < W.heap.size ∧ ∀ (j : Nat) (x : Int), ys[j]? = some x → W.cell? (ad.add j) = some (.int k x))) : ((Kd.sl e (.int k)).sem P).val X W ys v := by
  obtain ⟨A, c, h1, h2, h3, h4⟩ := h
  refine ⟨A, c, h1, h2, h3, fun hne => ?_⟩
  obtain ⟨ad, g1, g2, g3, g4⟩ := h4 hne
  refine ⟨ad, g1, g2, g3, fun j x hx => ⟨[.int k x], ⟨_, rfl, rfl, rfl⟩, fun i u hu => ?_⟩⟩
  cases i with
  | succ i => simp at hu
  | zero =>
    simp only [List.getElem?_cons_zero, Option.some.injEq] at hu
    subst hu
    show W.cell? (ad.add (j * 1 + 0)) = _
    rw [Nat.mul_one, Nat.add_zero]
    exact g4 j x hx

theorem dec1_ok (m : Mt P glb Bk X0 w0 st ρ a W) (hct : CtOK P glb S) : ∀ n, D1ok P ρ (Xs st ρ X0) (Xl st ρ X0 Z) W Z (dec1 S st.look n) := by
  intro n
  induction n with
  | zero => intro K c x ls v h; cases h
  | succ n ih =>
    intro K c x ls v h hv hz
    have eZ := m.evoZ Z
    cases c with
    | v u => cases h
    | om l => cases h
    | d K' y =>
      simp only [dec1] at h
      split at h
      · rename_i hk
        subst hk
        cases h
        exact (Kd.stands P K').cells eZ hv
      · split at h
        · rename_i e K1
          cases K' with
          | nsl e2 K2 =>
            simp only [asSl] at h
            split at h
            · rename_i hk
              subst hk
              cases h
              have hv2 := (Kd.stands P (.nsl e2 K2)).cells eZ hv
              obtain ⟨v', he, h1, h0, h2⟩ := hv2
              cases he
              refine ⟨v, rfl, h1, ?_⟩
              cases hy : (y : Option (List K2.T)) with
              | none =>
                obtain rfl := h0 hy
                exact ⟨none, 0, rfl, Nat.le_refl _, by unfold maxLen; omega, fun h => absurd rfl h⟩
              | some xs =>
                obtain ⟨A, c, g1, g2, g3, g4, g5⟩ := h2 xs hy
                exact ⟨A, c, g1, g3, g4, g5⟩
            · cases h
          | sl e2 K2 =>
            simp only [asSl] at h
            split at h
            · rename_i hk
              subst hk
              cases h
              obtain ⟨v', he, h1, h2⟩ := (Kd.stands P (.sl e2 K2)).cells eZ hv
              cases he
              exact ⟨v, rfl, h1, h2⟩
            · cases h
          | _ => cases h
        · cases h
    | fr e K' xs =>
      simp only [dec1] at h
      split at h
      · split at h
        · rename_i hk
          subst hk
          cases h
          exact (Kd.stands P (.sl e K')).cells eZ hv.2
        · cases h
      · cases h
    | nl e K' =>
      have hv' : v = .slice none 0 0 := hv
      subst hv'
      simp only [dec1] at h
      split at h
      · cases h
        exact ⟨_, rfl, rfl, none, 0, rfl, Nat.le_refl _, by unfold maxLen; omega, fun h => absurd rfl h⟩
      · cases h
        exact ⟨_, rfl, rfl, fun _ => rfl, fun xs hx => by cases hx⟩
      · cases h
    | own l =>
      obtain ⟨hv1, a1, n1, c1, hv2⟩ := hv
      have key : ∀ (nn : Bool) (e : TypeId) (K' : Kd) (xs : List K'.T), (Z l = true → ∀ e' : TypeId, ((Kd.sl e' K').sem P).val (Xl st ρ X0 Z) W xs v ∧ (nn = true → ∃ a n c, v = .slice (some a) n c)) →
          ownDec l nn K' xs K = some (x, ls) → (K.sem P).cells (Xl st ρ X0 Z) W x [v] := by
        intro nn e K' xs hr h
        cases K with
        | sl e2 K1 =>
          simp only [ownDec] at h
          split at h
          · rename_i hk
            subst hk
            cases h
            exact cells_of_val (hr (hz l (by simp)) e2).1 rfl
          · cases h
        | nsl e2 K1 =>
          simp only [ownDec] at h
          split at h
          · rename_i hk
            subst hk
            split at h
            · rename_i hnn
              cases h
              obtain ⟨hval, hn⟩ := hr (hz l (by simp)) e2
              obtain ⟨a2, n2, c2, hv3⟩ := hn hnn
              have hval2 : ∃ A c, v = .slice A xs.length c ∧ xs.length ≤ c ∧ c ≤ maxLen ∧ RowAt P K' (Xl st ρ X0 Z) W A xs := hval
              refine ⟨v, rfl, by rw [hv3]; rfl, ?_⟩
              show (some xs = none → v = Value.slice none 0 0) ∧ ∀ ys, some xs = some ys → _
              refine ⟨fun hx => (by cases hx), fun ys hy => ?_⟩
              cases hy
              obtain ⟨A, c, g1, g2, g3, g4⟩ := hval2
              refine ⟨A, c, g1, ?_, g2, g3, g4⟩
              rw [hv3] at g1
              injection g1 with g1
              rw [← g1]
              simp
            · cases h
          · cases h
        | _ => cases h
      simp only [dec1] at h
      split at h
      · rename_i nn e K' xs hl
        obtain ⟨s, hs⟩ := look_some hl
        exact key nn e K' xs (fun hZ e' => m.rowVal hs hv1 hZ) h
      · rename_i nn e K' xs hl
        obtain ⟨s, hs⟩ := look_some hl
        refine key nn e K' xs (fun hZ e' => ?_) h
        obtain ⟨v', hv', hok⟩ := m.hps l _ s hs
        rw [hv1] at hv'; injection hv' with hv'; subst hv'
        exact ⟨(Kd.stands P (.sl e' K')).val eZ hok.1, hok.2⟩
      · rename_i e K' xs hl
        obtain ⟨s, hs⟩ := look_some hl
        exact key false e K' xs (fun hZ e' => ⟨m.lnVal hs hv1 hZ, fun h => by cases h⟩) h
      · rename_i nn e ag e1 K1 xs vl hl
        obtain ⟨s, hs⟩ := look_some hl
        exact key nn e (elK ag e1 K1) (xs.map (elX ag e1 K1)) (fun hZ e' => m.matVal hs hv1 hZ) h
      · cases h
    | inn l vl j =>
      obtain ⟨us, hu, hj, ⟨a1, n1, c1, hv2⟩, _⟩ := hv
      simp only [dec1] at h
      split at h
      · rename_i nn e ag e1 K1 xs vl' hl
        obtain ⟨s, hs⟩ := look_some hl
        cases hvl : Nat.beq vl vl' with
        | false => rw [hvl] at h; cases h
        | true =>
          obtain rfl := Nat.eq_of_beq_eq_true hvl
          rw [hvl, cond_true] at h
          cases K with
          | sl e2 K2 =>
            simp only [ownDec] at h
            split at h
            · rename_i hk
              subst hk
              cases h
              exact cells_of_val (m.innVal hs hu hj (hz l (by simp))) rfl
            · cases h
          | nsl e2 K2 =>
            simp only [ownDec] at h
            split at h <;> cases h
          | _ => cases h
      · cases h
    | ptr l off =>
      obtain ⟨b, hρ, hv1⟩ := hv
      cases off with
      | succ off => cases h
      | zero =>
        simp only [dec1] at h
        split at h
        · rename_i own ty cs hl
          split at h
          · rename_i ty' K1
            split at h
            · rename_i hty
              subst hty
              split at h
              · rename_i y lls hd
                cases h
                obtain ⟨s, hs⟩ := look_some hl
                obtain ⟨v', hv', hok⟩ := m.hps l _ s hs
                rw [hρ] at hv'; injection hv' with hv'; subst hv'
                obtain ⟨b', arr, he, hb, hcs, hno, hlo⟩ := hok
                injection he with he; injection he with he; injection he with he
                subst he
                obtain ⟨v1, v2, hvs, hc1, hc2⟩ := decs_ok (Z := Z) ih K1 cs _ [] _ arr.toList hd hcs (fun l' hl' => hz l' (by cases own <;> simp [hl']))
                have : v2 = [] := hc2
                subst this
                rw [List.append_nil] at hvs
                subst hvs
                subst hv1
                refine ⟨_, rfl, rfl, b, arr, rfl, ?_, hb, hc1⟩
                cases own with
                | true => exact m.notXl hs hρ (.inl rfl) (hz l (by simp))
                | false => exact fun hx => hno rfl hx.sub
              · cases h
            · cases h
          · cases h
        · cases h
    | ep l j sz off => cases h
    | iep l vl j i sz off => cases h
    | pt l off n j => cases h
    | bsl l lo hi n =>
      obtain ⟨⟨b, ad, hρ, rfl, had⟩, hlh, hhn, hn1⟩ := hv
      simp only [dec1] at h
      split at h
      · rename_i own ty cs hl
        split at h
        · rename_i e k
          cases hb : Nat.ble n cs.length with
          | false => rw [hb] at h; cases h
          | true =>
            rw [hb] at h
            have hb := Nat.le_of_ble_eq_true hb
            obtain ⟨xs, hxs, hh⟩ := Option.map_eq_some_iff.1 (show Option.map _ _ = _ from h)
            cases hh
            obtain ⟨s, hs⟩ := look_some hl
            obtain ⟨v', hv', hok⟩ := m.hps l _ s hs
            rw [hρ] at hv'; injection hv' with hv'; subst hv'
            obtain ⟨b', arr, he, hbk, hcs, hno, hlo⟩ := hok
            injection he with he; injection he with he; injection he with he
            subst he
            have hlen := hcs.length
            obtain ⟨e1, e2⟩ := allI_ok hxs (hcs.take n)
            have hxl : xs.length = n := by
              have := congrArg List.length e1
              simp only [List.length_take, List.length_map] at this
              omega
            have hl2 : ((xs.take hi).drop lo).length = hi - lo := by simp; omega
            refine ⟨_, rfl, rfl, slInt (e := e) (ys := (xs.take hi).drop lo) ⟨some ad, n - lo, by rw [hl2], by rw [hl2]; omega, by unfold maxLen; omega, fun hne => ?_⟩⟩
            have hpos : 0 < ((xs.take hi).drop lo).length := List.length_pos_iff.2 hne
            obtain rfl := had (by omega)
            refine ⟨_, rfl, ?_, (Array.getElem?_eq_some_iff.1 hbk).1, fun j x hx => ?_⟩
            · cases own with
              | true => exact m.notXl hs hρ (.inl rfl) (hz l (by simp))
              | false => exact fun hx => hno rfl hx.sub
            · rw [List.getElem?_drop, List.getElem?_take] at hx
              split at hx
              · rw [plainAdd, cell_of_row W b _ arr ty (0, 0) hbk]
                have h3 : (arr.toList.take n)[lo + j]? = some (.int k x) := by rw [e1, List.getElem?_map, hx]; rfl
                rw [List.getElem?_take] at h3
                split at h3
                · simpa using h3
                · cases h3
              · cases hx
        · rename_i e e2 K2
          cases hb : (Nat.ble n cs.length && Nat.beq lo 0 && Nat.beq hi n) with
          | false => rw [hb] at h; cases h
          | true =>
            rw [hb] at h
            simp only [Bool.and_eq_true] at hb
            obtain ⟨⟨hb, hb1⟩, hb2⟩ := hb
            have hb := Nat.le_of_ble_eq_true hb
            obtain rfl := Nat.eq_of_beq_eq_true hb1
            obtain rfl := Nat.eq_of_beq_eq_true hb2
            obtain ⟨⟨xs, ls2⟩, hxs, hh⟩ := Option.map_eq_some_iff.1 (show Option.map _ _ = _ from h)
            cases hh
            obtain ⟨s, hs⟩ := look_some hl
            obtain ⟨v', hv', hok⟩ := m.hps l _ s hs
            rw [hρ] at hv'; injection hv' with hv'; subst hv'
            obtain ⟨b', arr, he, hbk, hcs, hno, hlo⟩ := hok
            injection he with he; injection he with he; injection he with he
            subst he
            have hlen := hcs.length
            obtain ⟨k1, k2, k3⟩ := decList_ok (Z := Z) ih (.sl e2 K2) hi (cs.take hi) xs ls2 _ hxs (hcs.take hi) (fun l' hl' => hz l' (by simp [hl']))
            refine cells_of_val (K := .sl e (.sl e2 K2)) ⟨some ad, hi, by rw [k1]; rfl, by rw [k1]; exact Nat.le_refl _, by unfold maxLen; omega, fun hne => ?_⟩ rfl
            have hpos : 0 < xs.length := List.length_pos_iff.2 hne
            obtain rfl := had (by omega)
            refine ⟨_, rfl, ?_, (Array.getElem?_eq_some_iff.1 hbk).1, fun j x hx => ⟨_, k3 j x hx, fun i u hu => ?_⟩⟩
            · cases own with
              | true => exact m.notXl hs hρ (.inl rfl) (hz l (by simp))
              | false => exact fun hx => hno rfl hx.sub
            · rw [List.getElem?_take] at hu
              split at hu
              · rw [List.getElem?_drop, List.getElem?_take] at hu
                split at hu
                · rw [plainAdd, cell_of_row W b _ arr ty (0, 0) hbk]
                  simpa using hu
                · cases hu
              · cases hu
        · cases h
      · cases h
    | sub l lo hi sz =>
      obtain ⟨A0, n0, c0, hρ, h1, h2, A, q, rfl, h3, h4, _, h5⟩ := hv
      simp only [dec1] at h
      split at h
      · rename_i nn e K' xs hl
        split at h
        · rename_i e2 K1
          split at h
          · rename_i hk
            subst hk
            cases hb : Nat.beq sz K'.n with
            | false => rw [hb] at h; cases h
            | true =>
              rw [hb] at h
              obtain rfl := Nat.eq_of_beq_eq_true hb
              cases h
              obtain ⟨s, hs⟩ := look_some hl
              obtain ⟨⟨A1, cap, hx', g1, g2, hr⟩, _⟩ := m.rowVal (Z := Z) (e' := e2) hs hρ (hz l (by simp))
              injection hx' with q1 q2 q3
              subst q1; subst q2; subst q3
              have hl2 : (((castL rfl xs).take hi).drop lo).length = hi - lo := by
                show ((xs.take hi).drop lo).length = _
                simp; omega
              refine cells_of_val (K := .sl e2 K') ⟨A, q, by rw [hl2], by rw [hl2]; exact h3, h4, fun hne => ?_⟩ rfl
              have hpos : 0 < (((castL rfl xs).take hi).drop lo).length := List.length_pos_iff.2 hne
              obtain ⟨ad, rfl, rfl⟩ := h5 (by omega)
              obtain ⟨ad', had', r1, r2, r3⟩ := hr (by intro hn; subst hn; simp at h2; omega)
              cases had'
              refine ⟨_, rfl, by rw [add_block]; exact r1, by rw [add_block]; exact r2, fun j x hx => ?_⟩
              have hx : ((xs.take hi).drop lo)[j]? = some x := hx
              rw [List.getElem?_drop, List.getElem?_take] at hx
              split at hx
              · obtain ⟨ecs, t1, t2⟩ := r3 _ x hx
                refine ⟨ecs, t1, fun i u hu => ?_⟩
                rw [addAdd]
                have := t2 i u hu
                rw [Nat.add_mul, Nat.add_assoc] at this
                exact this
              · cases hx
          · cases h
        · cases h
      · cases h
    | dp K' y off => cases h
    | clo f cs =>
      simp only [dec1] at h
      split at h
      · rename_i c hc
        split at h
        · rename_i A R
          split at h
          case isFalse => cases h
          rename_i hown
          split at h
          · rename_i hA
            split at h
            · rename_i hR
              split at h
              · rename_i y l2 hcap
                cases h
                subst hA
                subst hR
                obtain ⟨vs, rfl, hvs⟩ := hv
                have hcv := capsD_ok (Z := Z) ih c.C cs y _ vs hcap hvs hz
                refine ⟨_, rfl, rfl, ⟨_, _, _, rfl⟩, fun X' W' e x vs' hx Q hQ => ?_⟩
                refine ⟨f, #[], vs.toArray, rfl, (hct.ct f c hc).enters, ?_⟩
                have h0 := (hct.ct f c hc).calls X' W' x y vs' vs e.low ((m.glbX.evo eZ).evo e) hx ((Kd.stands P c.C).vals e hcv) Q hQ
                rw [hown] at h0
                have := h0.mono fun en w' hp => Post.weak (P := P) e.low hp
                simpa using this
              · cases h
            · cases h
          · cases h
        · cases h
      · cases h
end
end Go.GX
set_option linter.unusedVariables false
namespace Go.GX
variable [Inhabited BaseD]
open Go.RowKit Go.Shelf Go.Proofs

structure Wide (F : Fence) (P : Program) : Prop where
  fn : ∀ f, F.fn f
  depth : F.depth = none
  calls : ∀ n f args W R, Calls P f args W R → CallsIn F n P f args W R

theorem Wide.wide (P : Program) : Wide Fence.wide P := ⟨fun _ => trivial, rfl, fun _ _ _ _ _ h => callsIn_wide.2 h⟩
theorem Wide.inRound (P : Program) (l : Nat) : Wide (Fence.wide.inRound l) P := ⟨fun _ => trivial, rfl, fun _ _ _ _ _ h => CallsIn.inRound l (callsIn_wide.2 h)⟩

def OpOut (P : Program) (o : Oper) (a : Act) (W : World) (R : Value → World → Prop) : Prop :=
  (∃ v W', (execOp a.eval o).run P W = .ok (.value v) W' ∧ R v W') ∨ (∃ W', (execOp a.eval o).run P W = .ok .skip W' ∧ R undef W') ∨
    ∃ f args, (execOp a.eval o).run P W = .ok (.enter f args) W ∧ Calls P f args W fun e w' => ∃ v, e = .returned v ∧ R v w'

theorem OpOut.mono {P : Program} {o : Oper} {a : Act} {W : World} {R R' : Value → World → Prop} (h : OpOut P o a W R) (hr : ∀ v w, R v w → R' v w) : OpOut P o a W R' := by
  rcases h with ⟨v, W', h1, h2⟩ | ⟨W', h1, h2⟩ | ⟨f, args, h1, h2⟩
  · exact .inl ⟨v, W', h1, hr _ _ h2⟩
  · exact .inr (.inl ⟨W', h1, hr _ _ h2⟩)
  · exact .inr (.inr ⟨f, args, h1, h2.mono fun e w' ⟨v, he, h⟩ => ⟨v, he, hr _ _ h⟩⟩)

theorem OpOut.wpIn {P : Program} {F : Fence} {n : Nat} {o : Oper} {a : Act} {W : World} {R : Value → World → Prop} {next : Act → World → Prop} {Q : Exit → Act → World → Prop} (hF : Wide F P) (hd : ∀ c, o.op ≠ .defer c)
    (h : OpOut P o a W R) (hn : ∀ v w', R v w' → next (a.put o.dst v) w') : o.wpIn F n P a W next Q := by
  refine ⟨fun f _ => hF.fn f, ?_⟩
  rw [Oper.semAt_eq _ _ _ hd]
  rcases h with ⟨v, W', h1, h2⟩ | ⟨W', h1, h2⟩ | ⟨f, args, h1, h2⟩
  · rw [h1]; exact hn _ _ h2
  · rw [h1]; exact hn _ _ h2
  · rw [h1]
    refine ⟨fun h => by rw [hF.depth] at h; simp at h, (hF.calls _ _ _ _ _ h2).mono ?_⟩
    rintro e w' ⟨v, rfl, h⟩
    exact hn _ _ h

section
variable {P : Program} {glb : Nat → Option GV} {Bk X0 : Nat → Prop} {w0 : World} {st : St} {ρ : Lab} {a : Act} {W W' : World} {S : Stat} {dr : Bool} {lab : Nat} {o : Oper} {Q : Eff}

def Fits (P : Program) (glb : Nat → Option GV) (Bk X0 : Nat → Prop) (w0 : World) (st : St) (ρ : Lab) (a : Act) (W : World) (Q : Eff) (v : Value) (W' : World) : Prop :=
  ∃ sv u ρ', Q sv u ∧ ρ.le ρ' ∧ Mt P glb Bk X0 w0 (st.upds u) ρ' a W' ∧ RepV P ρ' (Xs (st.upds u) ρ' X0) W' sv v ∧ W.heap.size ≤ W'.heap.size

theorem Fits.same (m : Mt P glb Bk X0 w0 st ρ a W) {sv : SV} {v : Value} (hQ : Q sv []) (hv : RepV P ρ (Xs st ρ X0) W sv v) : Fits P glb Bk X0 w0 st ρ a W Q v W :=
  ⟨sv, [], ρ, hQ, ρ.le_refl, m, hv, Nat.le_refl _⟩

theorem OpOut.plain (m : Mt P glb Bk X0 w0 st ρ a W) {sv : SV} {v : Value} (hr : (execOp a.eval o).run P W = .ok (.value v) W) (hQ : Q sv []) (hv : RepV P ρ (Xs st ρ X0) W sv v) :
    OpOut P o a W (Fits P glb Bk X0 w0 st ρ a W Q) := .inl ⟨v, W, hr, .same m hQ hv⟩

theorem ev_ok (hS : StatOK P S) (hg : S.glb = glb) (m : Mt P glb Bk X0 w0 st ρ a W) (t : TypeId) (x : Operand) : RepV P ρ (Xs st ρ X0) W (ev S st t x) (a.eval x) := by
  cases x with
  | tmp n => exact m.tms n
  | const v =>
    simp only [ev, Act.eval, cSV]
    split
    · exact ⟨_, rfl, _, rfl, rfl, rfl⟩
    · exact ⟨_, rfl, _, rfl, rfl, rfl⟩
    · exact ⟨_, rfl, _, rfl, rfl, rfl⟩
    · split
      · split
        · exact ⟨_, rfl, rfl⟩
        · trivial
      · trivial
    · exact ⟨_, rfl, rfl, rfl⟩
    · trivial
  | global g =>
    simp only [ev, Act.eval]
    split
    · rename_i v hv
      rw [hg] at hv
      obtain ⟨ty, b, cs, he, hx, hb, hc⟩ := m.glbX.2 g v hv
      cases he
      have hz : ∀ i : Nat, (⟨g, 0, none⟩ : Addr).add i = ⟨g, i, none⟩ := by
        intro i; unfold Addr.add; split <;> simp_all
      refine ⟨_, rfl, ⟨g, 0, none⟩, cs.toList, by rw [hz], hx, ?_, hc, fun i u hu => ?_⟩
      · exact (Array.getElem?_eq_some_iff.1 hb).1
      · rw [hz]
        simp only [World.cell?, hb]
        simpa using hu
    · trivial
  | func f => exact ⟨_, rfl, [], rfl, rfl⟩

theorem oneC_ok {X : Nat → Prop} {sv : SV} {v : Value} {k : SC → Prop} (h : oneC sv k) (hv : RepV P ρ X W sv v) : ∃ c, k c ∧ RepC P ρ X W c v := by
  unfold oneC at h
  split at h
  · rename_i c
    obtain ⟨c', hc, hr⟩ := hv
    cases hc
    exact ⟨c, h, hr⟩
  · exact h.elim

theorem oneI_ok {X : Nat → Prop} {sv : SV} {v : Value} {k : Int → Prop} (h : oneI sv k) (hv : RepV P ρ X W sv v) : ∃ (kk : IntKind) (x : Int), k x ∧ v = .int kk x := by
  unfold oneI at h
  split at h
  · rename_i kk x
    obtain ⟨c', hc, h2⟩ := hv
    cases hc
    obtain ⟨v', hv', _, hr⟩ := h2
    cases hv'
    exact ⟨kk, x, h, hr⟩
  · exact h.elim

theorem oneIK_ok {X : Nat → Prop} {sv : SV} {v : Value} {k : IntKind → Int → Prop} (h : oneIK sv k) (hv : RepV P ρ X W sv v) : ∃ (kk : IntKind) (x : Int), k kk x ∧ v = .int kk x := by
  unfold oneIK at h
  split at h
  · rename_i kk x
    obtain ⟨c', hc, h2⟩ := hv
    cases hc
    obtain ⟨v', hv', _, hr⟩ := h2
    cases hv'
    exact ⟨kk, x, h, hr⟩
  · exact h.elim

theorem oneB_ok {X : Nat → Prop} {sv : SV} {v : Value} {k : Bool → Prop} (h : oneB sv k) (hv : RepV P ρ X W sv v) : ∃ b : Bool, k b ∧ v = .bool b := by
  unfold oneB at h
  split at h
  · rename_i b
    obtain ⟨c', hc, h2⟩ := hv
    cases hc
    obtain ⟨v', hv', _, hr⟩ := h2
    cases hv'
    exact ⟨b, h, hr⟩
  · exact h.elim

theorem cells_toList_one {v : Value} (h : v.oneCell' = true) : v.cells.toList = [v] := by
  cases v <;> first | rfl | simp [Value.oneCell'] at h

theorem cellsOf_ok {X : Nat → Prop} {sv : SV} {v : Value} {k : List SC → Prop} (h : cellsOf sv k) (hv : RepV P ρ X W sv v) : ∃ cs, k cs ∧ RepCs P ρ X W cs v.cells.toList := by
  unfold cellsOf at h
  split at h
  · rename_i ag cs
    refine ⟨cs, h, ?_⟩
    cases ag with
    | false =>
      obtain ⟨c, rfl, hc⟩ := hv
      rw [cells_toList_one hc.one]
      exact ⟨v, [], rfl, hc, rfl⟩
    | true =>
      obtain ⟨vs, rfl, hc⟩ := hv
      exact hc
  · exact h.elim

theorem optK_ok {α : Type} {x : Option α} {k : α → Prop} (h : optK x k) : ∃ y, x = some y ∧ k y := by
  cases x with
  | none => exact h.elim
  | some y => exact ⟨y, rfl, h⟩

theorem rep_int {X : Nat → Prop} (k : IntKind) (n : Int) : RepV P ρ X W (intSV k n) (.int k n) := ⟨_, rfl, _, rfl, rfl, rfl⟩
theorem rep_bool {X : Nat → Prop} (b : Bool) : RepV P ρ X W (boolSV b) (.bool b) := ⟨_, rfl, _, rfl, rfl, rfl⟩

theorem slData_ok (m : Mt P glb Bk X0 w0 st ρ a W) {c : SC} {K : Kd} {xs : List K.T} {ls : List Nat} {v : Value} (h : slData st.look c = some ⟨K, xs, ls⟩) (hv : RepC P ρ (Xs st ρ X0) W c v) (Z : Nat → Bool) (hz : ∀ l, l ∈ ls → Z l = true) :
    ∀ e : TypeId, ((Kd.sl e K).sem P).val (Xl st ρ X0 Z) W xs v := by
  intro e
  have eZ := m.evoZ Z
  cases c with
  | d K' x =>
    cases K' with
    | sl e' K1 =>
      simp only [slData, Option.some.injEq] at h
      cases h
      obtain ⟨v', hv', _, hr⟩ := hv
      cases hv'
      exact (Kd.stands P (.sl e' K)).val eZ hr
    | nsl e' K1 =>
      simp only [slData, Option.some.injEq] at h
      cases h
      obtain ⟨v', hv', _, h0, h2⟩ := hv
      cases hv'
      cases hx : (x : Option (List K.T)) with
      | none =>
        obtain rfl := h0 hx
        exact ⟨none, 0, rfl, Nat.le_refl _, by unfold maxLen; omega, fun h => absurd rfl h⟩
      | some xs =>
        obtain ⟨A, c, g1, g2, g3, g4, g5⟩ := h2 xs hx
        have hval : ((Kd.sl e K).sem P).val (Xs st ρ X0) W xs v := ⟨A, c, g1, g3, g4, g5⟩
        exact (Kd.stands P (.sl e K)).val eZ hval
    | _ => cases h
  | fr e' K1 xs' =>
    simp only [slData, Option.some.injEq] at h
    cases h
    obtain ⟨_, v', hv', _, hr⟩ := hv
    cases hv'
    exact (Kd.stands P (.sl e' K)).val eZ hr
  | nl e' K1 =>
    simp only [slData, Option.some.injEq] at h
    cases h
    have hv' : v = .slice none 0 0 := hv
    subst hv'
    exact ⟨none, 0, rfl, Nat.le_refl _, by unfold maxLen; omega, fun h => absurd rfl h⟩
  | own l =>
    obtain ⟨hv1, _⟩ := hv
    simp only [slData] at h
    split at h
    · rename_i nn e' K' xs' hl
      cases h
      obtain ⟨s, hs⟩ := look_some hl
      exact (m.rowVal hs hv1 (hz l (by simp))).1
    · rename_i nn e' K' xs' hl
      cases h
      obtain ⟨s, hs⟩ := look_some hl
      obtain ⟨v', hv', hok⟩ := m.hps l _ s hs
      rw [hv1] at hv'; injection hv' with hv'; subst hv'
      exact (Kd.stands P (.sl e K)).val eZ hok.1
    · rename_i e' K' xs' hl
      cases h
      obtain ⟨s, hs⟩ := look_some hl
      exact m.lnVal hs hv1 (hz l (by simp))
    · rename_i nn e' ag e1 K1 xs' vl hl
      cases h
      obtain ⟨s, hs⟩ := look_some hl
      exact (m.matVal hs hv1 (hz l (by simp))).1
    · cases h
  | inn l vl j =>
    obtain ⟨us, hu, hj, _⟩ := hv
    simp only [slData] at h
    split at h
    · rename_i nn e' ag e1 K1 xs' vl' hl
      cases hvl : Nat.beq vl vl' with
      | false => rw [hvl] at h; cases h
      | true =>
        obtain rfl := Nat.eq_of_beq_eq_true hvl
        rw [hvl] at h
        cases h
        obtain ⟨s, hs⟩ := look_some hl
        exact m.innVal hs hu hj (hz l (by simp))
    · cases h
  | sub l lo hi sz =>
    obtain ⟨A0, n, c, hρ, h1, h2, A, q, rfl, h3, h4, h5⟩ := hv
    simp only [slData] at h
    split at h
    · rename_i nn e' K' xs' hl
      cases hsz : Nat.beq sz K'.n with
      | false => rw [hsz] at h; cases h
      | true =>
        obtain rfl := Nat.eq_of_beq_eq_true hsz
        rw [hsz] at h
        cases h
        obtain ⟨s, hs⟩ := look_some hl
        obtain ⟨A1, c1, hv1, g1, g2, g3⟩ := (m.rowVal (e' := e) hs hρ (hz l (by simp))).1
        injection hv1 with q1 q2 q3
        subst q1; subst q2; subst q3
        have hlen : ((xs'.take hi).drop lo).length = hi - lo := by simp; omega
        refine ⟨A, q, by rw [hlen], by omega, h4, fun hne => ?_⟩
        have hpos : 0 < ((xs'.take hi).drop lo).length := List.length_pos_iff.2 hne
        obtain ⟨ad, rfl, rfl⟩ := h5.2 (by omega)
        obtain ⟨ad', had, k1, k2, k3⟩ := g3 (by intro h; subst h; simp at hpos)
        cases had
        refine ⟨_, rfl, by rw [add_block]; exact k1, by rw [add_block]; exact k2, fun j y hy => ?_⟩
        rw [List.getElem?_drop, List.getElem?_take] at hy
        split at hy
        · obtain ⟨ecs, r1, r2⟩ := k3 _ y hy
          refine ⟨ecs, r1, fun p w hw => ?_⟩
          rw [addAdd, ← Nat.add_assoc, ← Nat.add_mul]
          exact r2 p w hw
        · cases hy
    · cases h
  | _ => cases h

theorem Mt.rowElems (m : Mt P glb Bk X0 w0 st ρ a W) {l : Nat} {nn : Bool} {e : TypeId} {K : Kd} {xs : List K.T} {s : Nat} {v : Value} (h1 : st.hp l = some (.row nn e K xs, s)) (h2 : ρ l = some v) :
    ∃ A c, v = .slice A xs.length c ∧ xs.length ≤ c ∧ c ≤ maxLen ∧ (xs ≠ [] → ∃ g, A = some ⟨g, 0, none⟩ ∧ ∀ (j : Nat) x, xs[j]? = some x → ∃ ecs : List Value, (K.sem P).cells (Xs st ρ X0) W x ecs ∧ ∀ (i : Nat) u, ecs[i]? = some u → W.cell? ⟨g, j * K.n + i, none⟩ = some u) := by
  obtain ⟨v', hv', hok⟩ := m.hps l _ s h1
  rw [h2] at hv'; injection hv' with hv'; subst hv'
  obtain ⟨h0, ⟨flat, ho, hc⟩, hnn⟩ := hok
  obtain ⟨g1, g2⟩ := ho
  rcases g2 with ⟨rfl, hx⟩ | ⟨g, cap, cur, rfl, k1, k2, k3, k4, k5, k6⟩
  · obtain rfl : xs = [] := List.eq_nil_of_length_eq_zero hx
    exact ⟨none, 0, rfl, Nat.le_refl _, by unfold maxLen; omega, fun h => absurd rfl h⟩
  · refine ⟨some ⟨g, 0, none⟩, cap, rfl, k3, k4, fun _ => ⟨g, rfl, fun j x hj => ⟨_, hc j x hj, fun i u hu => ?_⟩⟩⟩
    rw [List.getElem?_take] at hu
    split at hu
    · rw [List.getElem?_drop] at hu
      have ho' : W.ownsRow 0 e K.n (.slice (some ⟨g, 0, none⟩) xs.length cap) xs.length flat := ⟨g1, .inr ⟨g, cap, cur, rfl, k1, k2, k3, k4, k5, k6⟩⟩
      have := ho'.cells rfl (j * K.n + i) u hu
      have hadd : (⟨g, 0, none⟩ : Addr).add (j * K.n + i) = ⟨g, j * K.n + i, none⟩ := by unfold Addr.add; split <;> simp_all
      rwa [hadd] at this
    · cases hu

theorem cellsAt_ok (m : Mt P glb Bk X0 w0 st ρ a W) {c : SC} {cs : List SC} {v : Value} (h : cellsAt st.look c = some cs) (hv : RepC P ρ (Xs st ρ X0) W c v) :
    ∃ ad us, v = .pointer (some ad) ∧ RepCs P ρ (Xs st ρ X0) W cs us ∧ ∀ (i : Nat) u, us[i]? = some u → W.cell? (ad.add i) = some u := by
  have plainAdd : ∀ (b off i : Nat), (⟨b, off, none⟩ : Addr).add i = ⟨b, off + i, none⟩ := by
    intro b off i; unfold Addr.add; split <;> simp_all
  have addAdd : ∀ (ad : Addr) (i j : Nat), (ad.add i).add j = ad.add (i + j) := by
    intro ad i j
    unfold Addr.add
    by_cases hi : i = 0 <;> by_cases hj : j = 0 <;> simp [hi, hj, Nat.add_assoc]
  cases c with
  | ptr l off =>
    obtain ⟨b, hρ, rfl⟩ := hv
    simp only [cellsAt] at h
    split at h
    · rename_i own ty ds hl
      cases h
      obtain ⟨s, hs⟩ := look_some hl
      obtain ⟨v', hv', hok⟩ := m.hps l _ s hs
      rw [hρ] at hv'; injection hv' with hv'; subst hv'
      obtain ⟨b', arr, he, hb, hcs, _⟩ := hok
      injection he with he; injection he with he; injection he with he
      subst he
      refine ⟨_, arr.toList.drop off, rfl, hcs.drop off, fun i u hu => ?_⟩
      rw [plainAdd, cell_of_row W b (off + i) arr ty (0, 0) hb]
      rw [List.getElem?_drop] at hu
      simpa using hu
    · cases h
  | ep l j sz off =>
    obtain ⟨b, n, c0, hρ, rfl, hj⟩ := hv
    have key : ∀ (K : Kd) (xs : List K.T), sz = K.n → xs.length = n → (∀ (j : Nat) x, xs[j]? = some x → ∃ ecs : List Value, (K.sem P).cells (Xs st ρ X0) W x ecs ∧ ∀ (i : Nat) u, ecs[i]? = some u → W.cell? (b.add (j * K.n + i)) = some u) → cs = (K.fl (xs.getD j K.dflt)).drop off →
        ∃ ad us, (Value.pointer (some (b.add (j * sz + off)))) = .pointer (some ad) ∧ RepCs P ρ (Xs st ρ X0) W cs us ∧ ∀ (i : Nat) u, us[i]? = some u → W.cell? (ad.add i) = some u := by
      rintro K xs rfl hlen hget rfl
      have hj' : j < xs.length := by omega
      have hx : xs[j]? = some (xs.getD j K.dflt) := by rw [List.getD_eq_getElem?_getD, List.getElem?_eq_getElem hj']; rfl
      obtain ⟨ecs, h1, h2⟩ := hget j _ hx
      refine ⟨_, ecs.drop off, rfl, (RepCs.of_cells K h1).drop off, fun i u hu => ?_⟩
      rw [List.getElem?_drop] at hu
      have := h2 (off + i) u hu
      rw [addAdd]
      rw [← this]
      congr 2
      omega
    simp only [cellsAt] at h
    split at h
    · rename_i nn e' K xs hl
      cases hb : Nat.beq sz K.n with
      | false => rw [hb] at h; cases h
      | true =>
        rw [hb] at h
        simp only [cond_true, Option.some.injEq] at h
        obtain ⟨s, hs⟩ := look_some hl
        obtain ⟨A, c, h1, _, _, hr⟩ := m.rowElems hs hρ
        injection h1 with hA hlen hc
        obtain ⟨g, hg, hget⟩ := hr (by intro h; subst h; simp at hlen; omega)
        rw [← hA] at hg
        injection hg with hg
        subst hg
        exact key K xs (Nat.eq_of_beq_eq_true hb) hlen.symm (fun j x hj => by
          obtain ⟨ecs, k1, k2⟩ := hget j x hj
          exact ⟨ecs, k1, fun i u hu => by rw [plainAdd, Nat.zero_add]; exact k2 i u hu⟩) h.symm
    · rename_i nn e' K xs hl
      cases hb : Nat.beq sz K.n with
      | false => rw [hb] at h; cases h
      | true =>
        rw [hb] at h
        simp only [cond_true, Option.some.injEq] at h
        obtain ⟨s, hs⟩ := look_some hl
        obtain ⟨v', hv', hok⟩ := m.hps l _ s hs
        rw [hρ] at hv'; injection hv' with hv'; subst hv'
        obtain ⟨⟨A, c, h1, _, _, hr⟩, _⟩ := hok
        injection h1 with hA hlen hc
        obtain ⟨ad, hg, _, _, hget⟩ := hr (by intro h; subst h; simp at hlen; omega)
        rw [← hA] at hg
        injection hg with hg
        subst hg
        exact key K xs (Nat.eq_of_beq_eq_true hb) hlen.symm hget h.symm
    · rename_i e' K xs hl
      cases hb : Nat.beq sz K.n with
      | false => rw [hb] at h; cases h
      | true =>
        rw [hb] at h
        simp only [cond_true, Option.some.injEq] at h
        obtain ⟨s, hs⟩ := look_some hl
        obtain ⟨v', hv', hok⟩ := m.hps l _ s hs
        rw [hρ] at hv'; injection hv' with hv'; subst hv'
        obtain ⟨hf, A, c, h1, _, _, hr⟩ := hok
        injection h1 with hA hlen hc
        obtain ⟨ad, hg, _, hget⟩ := hr (by intro h; subst h; simp at hlen; omega)
        rw [← hA] at hg
        injection hg with hg
        subst hg
        exact key K xs (Nat.eq_of_beq_eq_true hb) hlen.symm (fun j x hj => by
          obtain ⟨ecs, k1, k2⟩ := hget j x hj
          exact ⟨ecs, Kd.flat_cells P K hf k1, k2⟩) h.symm
    · rename_i nn e' ag e1 K1 xs vl hl
      cases hb : (Nat.beq sz 1 && Nat.beq off 0) with
      | false => rw [hb] at h; cases h
      | true =>
        rw [hb] at h
        cases h
        simp only [Bool.and_eq_true] at hb
        obtain rfl := Nat.eq_of_beq_eq_true hb.1
        obtain rfl := Nat.eq_of_beq_eq_true hb.2
        obtain ⟨s, hs⟩ := look_some hl
        obtain ⟨v', hv', ⟨us, hu, mo⟩, _⟩ := m.hps l _ s hs
        rw [hρ] at hv'; injection hv' with hv'; subst hv'
        obtain ⟨hd, ho, hh⟩ := mo.out
        have hlen : xs.length = n ∧ ∃ g, b = ⟨g, 0, none⟩ := by
          obtain ⟨_, ho⟩ := ho
          rcases ho with ⟨h, _⟩ | ⟨g, cap, cur, h, _⟩
          · cases h
          · injection h with h1 h2 h3
            injection h1 with h1
            exact ⟨h2.symm, g, h1⟩
        obtain ⟨hlen, g, rfl⟩ := hlen
        have hju0 : j < us.length := by rw [mo.len]; omega
        have hju1 : j < xs.length := by omega
        have hju : us[j]? = some us[j] := List.getElem?_eq_getElem hju0
        have hxj : xs[j]? = some xs[j] := List.getElem?_eq_getElem hju1
        have hslu : ∃ a n c, us[j] = .slice a n c := by
          obtain ⟨fl, ⟨_, ho2⟩, _⟩ := mo.inr j _ _ hju hxj rfl
          rcases ho2 with ⟨h, _⟩ | ⟨g, cap, cur, h, _⟩ <;> exact ⟨_, _, _, h⟩
        refine ⟨_, [us[j]], rfl, ⟨us[j], [], rfl, ⟨us, hu, hju, hslu, by rw [hρ]; rfl⟩, rfl⟩, fun i u hi => ?_⟩
        cases i with
        | succ i => simp at hi
        | zero =>
          simp only [List.getElem?_cons_zero, Option.some.injEq] at hi
          subst hi
          rw [addAdd]
          have := ho.cells rfl j _ (hh j _ hju rfl)
          simpa using this
    · cases h
  | pt l off n j =>
    obtain ⟨⟨b, hρ, rfl⟩, hj0, hj1⟩ := hv
    simp only [cellsAt] at h
    split at h
    · rename_i own ty ds hl
      cases hb : Nat.ble (off + n) ds.length with
      | false => rw [hb] at h; cases h
      | true =>
        rw [hb] at h
        have hb := Nat.le_of_ble_eq_true hb
        obtain ⟨c', hp, rfl⟩ := Option.map_eq_some_iff.1 (show Option.map _ _ = _ from h)
        obtain ⟨s, hs⟩ := look_some hl
        obtain ⟨v', hv', hok⟩ := m.hps l _ s hs
        rw [hρ] at hv'; injection hv' with hv'; subst hv'
        obtain ⟨b', arr, he, hbk, hcs, _⟩ := hok
        injection he with he; injection he with he; injection he with he
        subst he
        have hlen := hcs.length
        obtain ⟨w, hw, hr⟩ := pickD_ok hp ((hcs.drop off).take n) hj0 (by rw [List.length_take, List.length_drop]; omega)
        refine ⟨_, [w], rfl, ⟨w, [], rfl, hr, rfl⟩, fun i u hu => ?_⟩
        cases i with
        | succ i => simp at hu
        | zero =>
          simp only [List.getElem?_cons_zero, Option.some.injEq] at hu
          subst hu
          rw [plainAdd, cell_of_row W b (off + j.toNat + 0) arr ty (0, 0) hbk]
          rw [List.getElem?_take, List.getElem?_drop] at hw
          split at hw
          · simpa using hw
          · cases hw
    · cases h
  | iep l vl j i sz off =>
    obtain ⟨us, ad, n, c0, hu, hj, rfl, hi, _⟩ := hv
    simp only [cellsAt] at h
    split at h
    · rename_i nn e' ag e1 K1 xs vl' hl
      cases hb : (Nat.beq vl vl' && Nat.beq sz K1.n) with
      | false => rw [hb] at h; cases h
      | true =>
        rw [hb] at h
        cases h
        simp only [Bool.and_eq_true] at hb
        obtain rfl := Nat.eq_of_beq_eq_true hb.1
        obtain rfl := Nat.eq_of_beq_eq_true hb.2
        obtain ⟨s, hs⟩ := look_some hl
        obtain ⟨v', hv', ⟨us', hu', mo⟩, _⟩ := m.hps l _ s hs
        rw [hu] at hu'
        obtain rfl := tuple_inj hu'
        have hlt : j < xs.length := by rw [← mo.len]; exact (List.getElem?_eq_some_iff.1 hj).1
        have hxj : xs[j]? = some (xs.getD j []) := by rw [List.getD_eq_getElem?_getD, List.getElem?_eq_getElem hlt]; rfl
        obtain ⟨fl, ho, hc⟩ := mo.inr j _ _ hj hxj rfl
        have hil : i < (xs.getD j []).length ∧ ∃ g, ad = ⟨g, 0, none⟩ := by
          obtain ⟨_, ho⟩ := ho
          rcases ho with ⟨h, _⟩ | ⟨g, cap, cur, h, _⟩
          · cases h
          · injection h with h1 h2 h3
            injection h1 with h1
            exact ⟨by omega, g, h1⟩
        obtain ⟨hil, g, rfl⟩ := hil
        have hget : ∀ ys : List K1.T, i < ys.length → ys[i]? = some (ys.getD i K1.dflt) := fun ys h => by rw [List.getD_eq_getElem?_getD, List.getElem?_eq_getElem h]; rfl
        have hxi := hget _ hil
        have hci := hc i _ hxi
        refine ⟨_, _, rfl, (RepCs.of_cells (X := Xs st ρ X0) K1 (Kd.flat_cells P K1 mo.flat hci)).drop off, fun q u hq => ?_⟩
        rw [List.getElem?_drop, List.getElem?_take] at hq
        split at hq
        · rw [List.getElem?_drop] at hq
          have := ho.cells rfl (i * K1.n + (off + q)) u hq
          rw [addAdd]
          rw [← this]
          congr 2
          omega
        · cases hq
    · cases h
  | dp K x off =>
    obtain ⟨ad, ds, rfl, _, _, h3, h4⟩ := hv
    simp only [cellsAt, Option.some.injEq] at h
    subst h
    refine ⟨_, ds.drop off, rfl, (RepCs.of_cells K h3).drop off, fun i u hu => ?_⟩
    rw [List.getElem?_drop] at hu
    rw [addAdd]
    exact h4 (off + i) u hu
  | d K x =>
    cases K with
    | ptr t K =>
      simp only [cellsAt, Option.some.injEq] at h
      subst h
      obtain ⟨v', hv', _, b, arr, rfl, _, hb, hc⟩ := hv
      cases hv'
      refine ⟨_, arr.toList, rfl, RepCs.of_cells K hc, fun i u hu => ?_⟩
      rw [plainAdd, cell_of_row W b (0 + i) arr t (0, 0) hb]
      simpa using hu
    | _ => cases h
  | _ => cases h
end
end Go.GX
set_option linter.unusedVariables false
namespace Go.GX
variable [Inhabited BaseD]
open Go.RowKit Go.Shelf Go.Proofs

section
variable {P : Program} {glb : Nat → Option GV} {Bk X0 : Nat → Prop} {w0 : World} {st : St} {ρ : Lab} {a : Act} {W W' : World} {S : Stat} {dr : Bool} {lab : Nat} {o : Oper} {Q : Eff}

theorem exec_v {s : Sem Value} {v : Value} (h : execOp a.eval o = (do pure (.value (← s)))) (hs : s.run P W = .ok v W') : (execOp a.eval o).run P W = .ok (.value v) W' := by
  rw [h, Sem.run_bind, hs]; rfl
theorem exec_u {s : Sem Unit} (h : execOp a.eval o = (do s; pure .skip)) (hs : s.run P W = .ok () W') : (execOp a.eval o).run P W = .ok .skip W' := by
  rw [h, Sem.run_bind, hs]; rfl

theorem sem_move (hS : StatOK P S) (hg : S.glb = glb) (m : Mt P glb Bk X0 w0 st ρ a W) {x : Operand} (hop : o.op = .move x ∨ o.op = .assign x) (h : Q (ev S st o.type x) []) : OpOut P o a W (Fits P glb Bk X0 w0 st ρ a W Q) := by
  refine .plain m (v := a.eval x) ?_ h (ev_ok hS hg m _ x)
  rcases hop with hop | hop <;> · unfold execOp; rw [hop]; rfl

theorem sem_pick (hS : StatOK P S) (hg : S.glb = glb) (m : Mt P glb Bk X0 w0 st ρ a W) {c x y : Operand} (hop : o.op = .pick c x y) (h : oneB (ev S st 0 c) fun t => cnd t (Q (ev S st o.type x) []) (Q (ev S st o.type y) [])) : OpOut P o a W (Fits P glb Bk X0 w0 st ρ a W Q) := by
  obtain ⟨b, hk, hv⟩ := oneB_ok h (ev_ok hS hg m 0 c)
  cases b with
  | true =>
    refine .plain m (v := a.eval x) ?_ hk (ev_ok hS hg m _ x)
    unfold execOp; rw [hop]; simp [hv, asBool]
  | false =>
    refine .plain m (v := a.eval y) ?_ hk (ev_ok hS hg m _ y)
    unfold execOp; rw [hop]; simp [hv, asBool]

theorem sem_nilCheck (hS : StatOK P S) (hg : S.glb = glb) (m : Mt P glb Bk X0 w0 st ρ a W) {x : Operand} (hop : o.op = .nilCheck x) (h : oneC (ev S st o.type x) fun c => match c with
      | .ptr l off => Q (.mk false [.ptr l off]) []
      | .ep l j sz off => Q (.mk false [.ep l j sz off]) []
      | .iep l vl j i sz off => Q (.mk false [.iep l vl j i sz off]) []
      | .dp K x off => Q (.mk false [.dp K x off]) []
      | .d (.ptr t K) x => Q (.mk false [.d (.ptr t K) x]) []
      | _ => False) : OpOut P o a W (Fits P glb Bk X0 w0 st ρ a W Q) := by
  obtain ⟨c, hk, hv⟩ := oneC_ok h (ev_ok hS hg m _ x)
  have run : ∀ ad : Addr, a.eval x = .pointer (some ad) → (execOp a.eval o).run P W = .ok (.value (a.eval x)) W := by
    intro ad he; unfold execOp; rw [hop]; dsimp only; rw [he]; rfl
  have hc : Q (.mk false [c]) [] ∧ ∃ ad, a.eval x = .pointer (some ad) := by
    split at hk
    · obtain ⟨b, _, he⟩ := hv; exact ⟨hk, _, he⟩
    · obtain ⟨b, _, _, _, he, _⟩ := hv; exact ⟨hk, _, he⟩
    · obtain ⟨_, _, _, _, _, _, he, _⟩ := hv; exact ⟨hk, _, he⟩
    · obtain ⟨ad, _, he, _⟩ := hv; exact ⟨hk, _, he⟩
    · have hv2 := hv
      obtain ⟨v', hv', _, b, _, he, _⟩ := hv2
      cases hv'
      exact ⟨hk, _, he⟩
    · exact hk.elim
  obtain ⟨hQ, ad, he⟩ := hc
  exact .plain m (run ad he) hQ ⟨c, rfl, hv⟩

theorem run_guard_int (op : BinOp) (t : TypeId) (x y : Operand) (k k' : IntKind) (m n : Int) (W : World) : (eqGuard op t x y (.int k m) (.int k' n)).run P W = .ok () W := by
  unfold eqGuard; cases op <;> rfl
theorem run_guard_bool (op : BinOp) (t : TypeId) (x y : Operand) (m n : Bool) (W : World) : (eqGuard op t x y (.bool m) (.bool n)).run P W = .ok () W := by
  unfold eqGuard; cases op <;> rfl

theorem sem_binI {op : BinOp} {t t' : TypeId} {x y : Operand} (m : Mt P glb Bk X0 w0 st ρ a W) (hop : o.op = .binOp op t x y t') {k : IntKind} {p q : Int} (hx : a.eval x = .int k p) (hy : a.eval y = .int k q) (h : binI op k p q fun r => Q r []) : OpOut P o a W (Fits P glb Bk X0 w0 st ρ a W Q) := by
  have run : ∀ v, (binOp op t (.int k p) (.int k q)).run P W = .ok v W → (execOp a.eval o).run P W = .ok (.value v) W := by
    intro v hv
    refine exec_v (s := do eqGuard op t x y (a.eval x) (a.eval y); binOp op t (a.eval x) (a.eval y)) (by unfold execOp; rw [hop]) ?_
    rw [hx, hy, Sem.run_bind, run_guard_int]; exact hv
  cases op <;> first | exact h.elim | skip
  case add => exact .plain m (run (.int k (k.wrap (p + q))) (by simp [binOp, Op.intArith])) h (rep_int _ _)
  case sub => exact .plain m (run (.int k (k.wrap (p - q))) (by simp [binOp, Op.intArith])) h (rep_int _ _)
  case mul => exact .plain m (run (.int k (k.wrap (p * q))) (by simp [binOp, Op.intArith])) h (rep_int _ _)
  case quo => exact .plain m (run (.int k (k.wrap (Int.tdiv p q))) (by simp [binOp, Op.intDiv, h.1])) h.2 (rep_int _ _)
  case rem => exact .plain m (run (.int k (Int.tmod p q)) (by simp [binOp, Op.intDiv, h.1])) h.2 (rep_int _ _)
  case and => exact .plain m (run (.int k (k.wrap (BitVec.toNat (BitVec.ofInt k.bits p &&& BitVec.ofInt k.bits q)))) (by simp [binOp, Op.intBits])) h (rep_int _ _)
  case or => exact .plain m (run (.int k (k.wrap (BitVec.toNat (BitVec.ofInt k.bits p ||| BitVec.ofInt k.bits q)))) (by simp [binOp, Op.intBits])) h (rep_int _ _)
  case xor => exact .plain m (run (.int k (k.wrap (BitVec.toNat (BitVec.ofInt k.bits p ^^^ BitVec.ofInt k.bits q)))) (by simp [binOp, Op.intBits])) h (rep_int _ _)
  case andNot => exact .plain m (run (.int k (k.wrap (BitVec.toNat (BitVec.ofInt k.bits p &&& ~~~ BitVec.ofInt k.bits q)))) (by simp [binOp, Op.intBits])) h (rep_int _ _)
  case eql => exact .plain m (run (.bool (p == q)) (by simp [binOp, Op.intCmp])) h (rep_bool _)
  case neq => exact .plain m (run (.bool (p != q)) (by simp [binOp, Op.intCmp])) h (rep_bool _)
  case lss => exact .plain m (run (.bool (decide (p < q))) (by simp [binOp, Op.intCmp])) h (rep_bool _)
  case leq => exact .plain m (run (.bool (decide (p ≤ q))) (by simp [binOp, Op.intCmp])) h (rep_bool _)
  case gtr => exact .plain m (run (.bool (decide (p > q))) (by simp [binOp, Op.intCmp])) h (rep_bool _)
  case geq => exact .plain m (run (.bool (decide (p ≥ q))) (by simp [binOp, Op.intCmp])) h (rep_bool _)

theorem sem_binB {op : BinOp} {t t' : TypeId} {x y : Operand} (m : Mt P glb Bk X0 w0 st ρ a W) (hop : o.op = .binOp op t x y t') {p q : Bool} (ht : P.underlying t = some .bool) (hx : a.eval x = .bool p) (hy : a.eval y = .bool q) (h : binB op p q fun r => Q r []) : OpOut P o a W (Fits P glb Bk X0 w0 st ρ a W Q) := by
  have run : ∀ v, (binOp op t (.bool p) (.bool q)).run P W = .ok v W → (execOp a.eval o).run P W = .ok (.value v) W := by
    intro v hv
    refine exec_v (s := do eqGuard op t x y (a.eval x) (a.eval y); binOp op t (a.eval x) (a.eval y)) (by unfold execOp; rw [hop]) ?_
    rw [hx, hy, Sem.run_bind, run_guard_bool]; exact hv
  cases op <;> first | exact h.elim | skip
  case eql => exact .plain m (run (.bool (p == q)) (run_eql_bool W t p q ht)) h (rep_bool _)
  case neq => exact .plain m (run (.bool (!(p == q))) (run_neq_bool W t p q ht)) h (rep_bool _)

theorem run_nilSlice (op : BinOp) (hop : op = .eql ∨ op = .neq) (t e : TypeId) (x y : Operand) (A : Option Addr) (n c : Nat) (ht : P.underlying t = some (.slice e)) (W : World) :
    (do eqGuard op t x y (.slice A n c) (.slice none 0 0); binOp op t (.slice A n c) (.slice none 0 0) : Sem Value).run P W = .ok (.bool (if op = .eql then A.isNone else !A.isNone)) W := by
  have hgd : (eqGuard op t x y (.slice A n c) (.slice none 0 0)).run P W = .ok () W := by unfold eqGuard; cases op <;> rfl
  rw [Sem.run_bind, hgd]
  rcases hop with rfl | rfl
  · show (binOp .eql t (.slice A n c) (.slice none 0 0)).run P W = _
    simp only [binOp, Sem.run_bind, run_equal_slice_nil W t e A n c ht]
    rfl
  · exact run_neq_slice_nil W t e A n c ht

def nilS (dr : Bool) (look : Nat → Option HE) (op : BinOp) (c : SC) (Q : Eff) : Prop :=
  match op with
  | .eql => isNil dr look c fun r => Q (boolSV r) []
  | .neq => isNil dr look c fun r => Q (boolSV (!r)) []
  | _ => False

theorem sem_nil {op : BinOp} {t t' e0 : TypeId} {x y : Operand} (m : Mt P glb Bk X0 w0 st ρ a W) (hop : o.op = .binOp op t x y t') (ht : P.underlying t = some (.slice e0)) {c : SC} (hc : RepC P ρ (Xs st ρ X0) W c (a.eval x)) (hy : a.eval y = .slice none 0 0)
    (h : nilS dr st.look op c Q) : OpOut P o a W (Fits P glb Bk X0 w0 st ρ a W Q) := by
  have key : ∀ (k : Bool → Prop), isNil dr st.look c k → ∃ A n cc, a.eval x = .slice A n cc ∧ k A.isNone := by
    intro k hk
    have dat : ∀ (K : Kd) (xs : List K.T) (X : Nat → Prop) (v : Value), (∀ e, ((Kd.sl e K).sem P).val X W xs v) → (∀ b : Bool, (b = true → xs = ([] : List K.T)) → k b) → ∃ A n cc, v = .slice A n cc ∧ k A.isNone := by
      intro K xs X v hv hk
      obtain ⟨A, cc, h1, _, _, h2⟩ := hv 0
      refine ⟨A, _, _, h1, hk _ (fun hA => ?_)⟩
      cases xs with
      | nil => rfl
      | cons y ys =>
        obtain ⟨ad, hA', _⟩ := h2 (by simp)
        rw [hA'] at hA
        cases hA
    cases c with
    | d K xs =>
      cases K with
      | sl e K =>
        obtain ⟨_, hk⟩ := chk_iff.1 hk
        obtain ⟨v', hv', _, hr⟩ := hc
        cases hv'
        exact dat K xs _ _ (fun _ => hr) hk
      | nsl e K =>
        have hk' : k (Option.isNone xs) := hk
        obtain ⟨v', hv', _, h0, h2⟩ := hc
        cases hv'
        cases hx : (xs : Option (List K.T)) with
        | none => rw [hx] at hk'; exact ⟨none, 0, 0, h0 hx, hk'⟩
        | some ys =>
          rw [hx] at hk'
          obtain ⟨A, cc, g1, g2, _⟩ := h2 ys hx
          refine ⟨A, _, _, g1, ?_⟩
          cases A with
          | none => exact absurd rfl g2
          | some ad => exact hk'
      | _ => exact hk.elim
    | nl e K => exact ⟨none, 0, 0, hc, hk⟩
    | own l =>
      obtain ⟨hρ, _⟩ := hc
      have rowc : ∀ (nn : Bool) (K : Kd) (xs : List K.T), (∀ e, ∃ X, ((Kd.sl e K).sem P).val X W xs (a.eval x)) → (nn = true → ∃ ad n cc, a.eval x = .slice (some ad) n cc) → cond nn (k false) (chk (!dr) (∀ b : Bool, (b = true → xs = ([] : List K.T)) → k b)) → ∃ A n cc, a.eval x = .slice A n cc ∧ k A.isNone := by
        intro nn K xs hv hn hk
        cases nn with
        | true =>
          obtain ⟨ad, n, cc, he⟩ := hn rfl
          exact ⟨some ad, n, cc, he, hk⟩
        | false =>
          obtain ⟨_, hk⟩ := chk_iff.1 hk
          obtain ⟨X, hv⟩ := hv 0
          exact dat K xs X _ (fun _ => hv) hk
      simp only [isNil] at hk
      split at hk
      · rename_i nn e K xs hl
        obtain ⟨s, hs⟩ := look_some hl
        have := fun e' => m.rowVal (Z := fun _ => true) (e' := e') hs hρ rfl
        exact rowc nn K xs (fun e => ⟨_, (this e).1⟩) (this 0).2 hk
      · rename_i nn e K xs hl
        obtain ⟨s, hs⟩ := look_some hl
        obtain ⟨v', hv', hok⟩ := m.hps l _ s hs
        rw [hρ] at hv'; injection hv' with hv'
        rw [← hv'] at hok
        exact rowc nn K xs (fun e => ⟨_, hok.1⟩) hok.2 hk
      · rename_i nn e ag e1 K1 xs hole vl hl
        obtain ⟨s, hs⟩ := look_some hl
        obtain ⟨v', hv', hok⟩ := m.hps l _ s hs
        rw [hρ] at hv'; injection hv' with hv'
        rw [← hv'] at hok
        cases nn with
        | false => exact hk.elim
        | true =>
          obtain ⟨ad, n, cc, he⟩ := hok.2 rfl
          exact ⟨some ad, n, cc, he, hk⟩
      · exact hk.elim
    | _ => exact hk.elim
  have run : ∀ A n cc, a.eval x = .slice A n cc → (op = .eql ∨ op = .neq) → (execOp a.eval o).run P W = .ok (.value (.bool (if op = .eql then A.isNone else !A.isNone))) W := by
    intro A n cc he ho
    refine exec_v (s := do eqGuard op t x y (a.eval x) (a.eval y); binOp op t (a.eval x) (a.eval y)) (by unfold execOp; rw [hop]) ?_
    rw [he, hy]
    exact run_nilSlice op ho t e0 x y A n cc ht W
  cases op <;> first | exact h.elim | skip
  case eql =>
    obtain ⟨A, n, cc, he, hk⟩ := key _ h
    exact .plain m (run A n cc he (.inl rfl)) hk (rep_bool _)
  case neq =>
    obtain ⟨A, n, cc, he, hk⟩ := key _ h
    exact .plain m (run A n cc he (.inr rfl)) hk (rep_bool _)

theorem sem_shr {op : BinOp} {t t' : TypeId} {x y : Operand} (m : Mt P glb Bk X0 w0 st ρ a W) (hop : o.op = .binOp op t x y t') {k k' : IntKind} {p q : Int} (hx : a.eval x = .int k p) (hy : a.eval y = .int k' q) {pr : Prop} (h : shS op k p q (fun r => Q r []) pr) :
    (OpOut P o a W (Fits P glb Bk X0 w0 st ρ a W Q)) ∨ (pr ∧ op ≠ .shl ∧ op ≠ .shr) := by
  unfold shS at h
  split at h
  · left
    refine .plain m (v := .int k (Int.fdiv p (2 ^ (min (Int.toNat q) k.bits)))) (exec_v (s := do eqGuard .shr t x y (a.eval x) (a.eval y); binOp .shr t (a.eval x) (a.eval y)) (by unfold execOp; rw [hop]) ?_) h.2 (rep_int _ _)
    rw [hx, hy, Sem.run_bind, run_guard_int]
    have h0 : ¬ (q < 0) := by have := h.1; omega
    simp [binOp, Op.shift, h0]
  · left
    refine .plain m (v := .int k (k.wrap (p * 2 ^ (min (Int.toNat q) k.bits)))) (exec_v (s := do eqGuard .shl t x y (a.eval x) (a.eval y); binOp .shl t (a.eval x) (a.eval y)) (by unfold execOp; rw [hop]) ?_) h.2 (rep_int _ _)
    rw [hx, hy, Sem.run_bind, run_guard_int]
    have h0 : ¬ (q < 0) := by have := h.1; omega
    simp [binOp, Op.shift, h0]
  · rename_i h1 h2
    exact .inr ⟨h, fun hh => h2 hh, fun hh => h1 hh⟩

theorem eqIs_ok {X : Nat → Prop} : ∀ {cs ds : List SC} {b : Bool} {us vs : List Value}, eqIs cs ds = some b → RepCs P ρ X W cs us → RepCs P ρ X W ds vs →
    ∃ ps qs : List (IntKind × Int), us = ps.map (fun p => .int p.1 p.2) ∧ vs = qs.map (fun p => .int p.1 p.2) ∧ ps.length = qs.length ∧ (∀ (j : Nat) p q, ps[j]? = some p → qs[j]? = some q → p.1 = q.1) ∧ b = (ps.zip qs).all fun z => z.1.2 == z.2.2
  | [], [], b, us, vs, h, hu, hv => by
    cases h
    have hu : us = [] := hu
    have hv : vs = [] := hv
    subst hu; subst hv
    exact ⟨[], [], rfl, rfl, rfl, fun j p q hp => by simp at hp, rfl⟩
  | .d (.int k) x :: r, .d (.int k') y :: s, b, us, vs, h, ⟨u, us', hu, hu1, hu2⟩, ⟨v, vs', hv, hv1, hv2⟩ => by
    subst hu; subst hv
    simp only [eqIs] at h
    cases hk : decide (k = k') with
    | false => rw [hk] at h; cases h
    | true =>
    rw [hk, cond_true] at h
    have hk := of_decide_eq_true hk
    cases hr : eqIs r s with
    | none => rw [hr] at h; cases h
    | some b' =>
      rw [hr] at h
      cases h
      obtain ⟨ps, qs, h1, h2, h3, h5, h4⟩ := eqIs_ok hr hu2 hv2
      obtain ⟨u', hu', _, hu3⟩ := hu1
      obtain ⟨v', hv', _, hv3⟩ := hv1
      cases hu'; cases hv'
      refine ⟨(k, x) :: ps, (k', y) :: qs, ?_, ?_, ?_, fun j p q hp hq => ?_, ?_⟩
      · rw [hu3, h1]; rfl
      · rw [hv3, h2]; rfl
      · simp [h3]
      · cases j with
        | zero => cases hp; cases hq; exact hk
        | succ j => exact h5 j p q (by simpa using hp) (by simpa using hq)
      · simp [h4]

theorem eqFields_ok (d : Nat) (xs ys : Array Value) (W : World) : ∀ (fs : List Field) (ps qs : List (IntKind × Int)) (i : Nat), ps.length = fs.length → qs.length = fs.length →
    (∀ (j : Nat) fd, fs[j]? = some fd → fd.name ≠ "_" ∧ fd.offset = i + j ∧ ∃ k, P.underlying fd.type = some (.int k)) → (∀ (j : Nat) p, ps[j]? = some p → xs[i + j]? = some (.int p.1 p.2)) → (∀ (j : Nat) p, qs[j]? = some p → ys[i + j]? = some (.int p.1 p.2)) →
    (∀ (j : Nat) p q, ps[j]? = some p → qs[j]? = some q → p.1 = q.1) →
    (Op.eqFields (d + 1) xs ys fs).run P W = .ok ((ps.zip qs).all fun z => z.1.2 == z.2.2) W
  | [], ps, qs, i, h1, h2, _, _, _, _ => by
    have : ps = [] := List.eq_nil_of_length_eq_zero (by simpa using h1)
    subst this
    rfl
  | f :: fs, [], qs, i, h1, _, _, _, _, _ => by simp at h1
  | f :: fs, p :: ps, [], i, _, h2, _, _, _, _ => by simp at h2
  | f :: fs, p :: ps, q :: qs, i, h1, h2, hf, hp, hq, hk => by
    obtain ⟨n1, n2, k, n3⟩ := hf 0 f rfl
    have hx := hp 0 p rfl
    have hy := hq 0 q rfl
    rw [Nat.add_zero] at n2 hx hy
    have hagg : (isAgg f.type).run P W = .ok false W := run_isAgg_plain n3 rfl W
    have ih := eqFields_ok d xs ys W fs ps qs (i + 1) (by simpa using h1) (by simpa using h2) (fun j fd hj => by have := hf (j + 1) fd (by simpa using hj); rwa [show i + (j + 1) = i + 1 + j by omega] at this)
      (fun j p hj => by have := hp (j + 1) p (by simpa using hj); rwa [show i + (j + 1) = i + 1 + j by omega] at this) (fun j p hj => by have := hq (j + 1) p (by simpa using hj); rwa [show i + (j + 1) = i + 1 + j by omega] at this)
      (fun j p q hj hj' => hk (j + 1) p q (by simpa using hj) (by simpa using hj'))
    have hkk := hk 0 p q rfl rfl
    have heq : (Op.equalIn (d + 1) f.type (.int p.1 p.2) (.int q.1 q.2)).run P W = .ok (p.2 == q.2) W := by
      rw [hkk]; exact run_equalIn_int W d f.type q.1 k p.2 q.2 n3
    simp only [Op.eqFields, n1, ne_eq, not_false_eq_true, if_true, Sem.run_bind, part, hagg, Result.andThen_ok, Bool.false_eq_true, if_false, n2, hx, hy, Sem.run_pure, heq]
    cases hb : (p.2 == q.2) with
    | false => simp [hb]
    | true => simp [hb, ih]

theorem eqItems_ok (d : Nat) {e : TypeId} (xs ys : Array Value) (W : World) {k : IntKind} (hk : P.underlying e = some (.int k)) : ∀ (ps qs : List (IntKind × Int)) (i : Nat), ps.length = qs.length →
    (∀ (j : Nat) p, ps[j]? = some p → xs[i + j]? = some (.int p.1 p.2)) → (∀ (j : Nat) p, qs[j]? = some p → ys[i + j]? = some (.int p.1 p.2)) →
    (∀ (j : Nat) p q, ps[j]? = some p → qs[j]? = some q → p.1 = q.1) →
    (Op.eqItems (d + 1) e 1 xs ys (List.range' i ps.length)).run P W = .ok ((ps.zip qs).all fun z => z.1.2 == z.2.2) W
  | [], qs, i, _, _, _, _ => rfl
  | p :: ps, [], i, h, _, _, _ => by simp at h
  | p :: ps, q :: qs, i, h, hp, hq, hkk => by
    have hx := hp 0 p rfl
    have hy := hq 0 q rfl
    rw [Nat.add_zero] at hx hy
    have hagg : (isAgg e).run P W = .ok false W := run_isAgg_plain hk rfl W
    have ih := eqItems_ok d xs ys W hk ps qs (i + 1) (by simpa using h) (fun j p hj => by have := hp (j + 1) p (by simpa using hj); rwa [show i + (j + 1) = i + 1 + j by omega] at this)
      (fun j p hj => by have := hq (j + 1) p (by simpa using hj); rwa [show i + (j + 1) = i + 1 + j by omega] at this) (fun j p q hj hj' => hkk (j + 1) p q (by simpa using hj) (by simpa using hj'))
    have heq : (Op.equalIn (d + 1) e (.int p.1 p.2) (.int q.1 q.2)).run P W = .ok (p.2 == q.2) W := by
      rw [hkk 0 p q rfl rfl]; exact run_equalIn_int W d e q.1 k p.2 q.2 hk
    rw [List.length_cons, List.range'_succ]
    simp only [Op.eqItems, Sem.run_bind, part, hagg, Result.andThen_ok, Bool.false_eq_true, if_false, Nat.mul_one, hx, hy, Sem.run_pure, heq]
    cases hb : (p.2 == q.2) with
    | false => simp [hb]
    | true => simp [hb, ih]

def mkE (P : Program) (t : TypeId) (ps : List (IntKind × Int)) : Value :=
  cond (aggT P t) (.agg (ps.map fun p => Value.int p.1 p.2).toArray) (match ps with
    | p :: _ => .int p.1 p.2
    | [] => undef)
theorem mkE_agg {P : Program} {t : TypeId} {ps : List (IntKind × Int)} (h : aggT P t = true) : mkE P t ps = .agg (ps.map fun p => Value.int p.1 p.2).toArray := by unfold mkE; rw [h]; rfl
theorem isAggT {P : Program} {t : TypeId} {d : TypeDesc} (h : P.underlying t = some d) (W : World) : (isAgg t).run P W = .ok (aggT P t) W := by
  unfold Go.isAgg aggT
  rw [Sem.run_bind, run_underlying h W, h]
  cases d <;> rfl

def fitK2 (ps qs : List (IntKind × Int)) : Prop := ∀ (j : Nat) p q, ps[j]? = some p → qs[j]? = some q → p.1 = q.1
theorem fitK2.part {ps qs : List (IntKind × Int)} (h : fitK2 ps qs) (o c : Nat) : fitK2 ((ps.drop o).take c) ((qs.drop o).take c) := fun j p q hp hq => by
  rw [List.getElem?_take] at hp hq
  split at hp
  · rename_i hj
    rw [if_pos hj] at hq
    rw [List.getElem?_drop] at hp hq
    exact h _ _ _ hp hq
  · cases hp
theorem part_mk {P : Program} {e : TypeId} {d : TypeDesc} {i : TypeInfo} (hu : P.underlying e = some d) (hi : P.info? e = some i) {ps : List (IntKind × Int)} {o c : Nat} (hc : P.cellsOf e = c) (h1 : aggT P e = false → c = 1) (ho : o + c ≤ ps.length) (W : World) :
    (part e (ps.map fun p => Value.int p.1 p.2).toArray o).run P W = .ok (mkE P e ((ps.drop o).take c)) W := by
  unfold part mkE
  rw [Sem.run_bind, isAggT hu W]
  simp only [Result.andThen_ok]
  cases ha : aggT P e with
  | true =>
    simp only [if_true, Sem.run_bind, run_sizeOf W hi, Result.andThen_ok, Sem.run_pure, cond_true, hc]
    congr 2
    simp [List.map_drop, List.map_take, ← Array.toList_inj]
  | false =>
    have h1 := h1 ha
    subst h1
    have hl : o < ps.length := by omega
    have e2 : (ps.drop o).take 1 = [ps[o]] := by
      rw [List.drop_eq_getElem_cons hl]; rfl
    rw [e2]
    simp [hl]
theorem zip_split {α β : Type} : ∀ (A : List α) (B : List β) (c : Nat), A.zip B = (A.take c).zip (B.take c) ++ (A.drop c).zip (B.drop c)
  | [], B, c => by simp
  | a :: A, [], c => by simp
  | a :: A, b :: B, 0 => by simp
  | a :: A, b :: B, c + 1 => by
    simp only [List.take_succ_cons, List.drop_succ_cons, List.zip_cons_cons, List.cons_append]
    rw [← zip_split A B c]
theorem eqZ_split {ps qs : List (IntKind × Int)} (o c : Nat) : (((ps.drop o).zip (qs.drop o)).all fun z => z.1.2 == z.2.2) = ((((ps.drop o).take c).zip ((qs.drop o).take c)).all (fun z => z.1.2 == z.2.2) && ((ps.drop (o + c)).zip (qs.drop (o + c))).all fun z => z.1.2 == z.2.2) := by
  rw [← List.all_append]
  congr 1
  rw [← List.drop_drop, ← List.drop_drop]
  exact zip_split _ _ c
theorem eqN_int {P : Program} {d : Nat} {t : TypeId} {n : Nat} (h : eqN P d t = some n) : aggT P t = false → n = 1 := by
  intro ha
  cases d with
  | zero => cases h
  | succ d =>
    unfold eqN at h
    unfold aggT at ha
    split at h
    · cases h; rfl
    · rename_i hu; rw [hu] at ha; cases ha
    · rename_i hu; rw [hu] at ha; cases ha
    · cases h
theorem eqN_under {P : Program} {d : Nat} {t : TypeId} {n : Nat} (h : eqN P d t = some n) : ∃ td, P.underlying t = some td := by
  cases d with
  | zero => cases h
  | succ d =>
    unfold eqN at h
    split at h
    · rename_i hu; exact ⟨_, hu⟩
    · rename_i hu; exact ⟨_, hu⟩
    · rename_i hu; exact ⟨_, hu⟩
    · cases h
theorem eqNs_ok {P : Program} {d D : Nat} (ih : ∀ t n, eqN P d t = some n → ∀ (ps qs : List (IntKind × Int)) W, ps.length = n → qs.length = n → fitK2 ps qs → (Op.equalIn (d + D) t (mkE P t ps) (mkE P t qs)).run P W = .ok ((ps.zip qs).all fun z => z.1.2 == z.2.2) W)
    {ps qs : List (IntKind × Int)} (hk : fitK2 ps qs) (W : World) : ∀ (fs : List Field) (i n : Nat), eqNs P (eqN P d) fs i = some n → ps.length = n → qs.length = n → i ≤ n ∧
      (Op.eqFields (d + D) (ps.map fun p => Value.int p.1 p.2).toArray (qs.map fun p => Value.int p.1 p.2).toArray fs).run P W = .ok (((ps.drop i).zip (qs.drop i)).all fun z => z.1.2 == z.2.2) W
  | [], i, n, h, hp, hq => by
    cases h
    refine ⟨Nat.le_refl _, ?_⟩
    rw [← hp, List.drop_length]
    simp [Op.eqFields]
  | f :: fs, i, n, h, hp, hq => by
    unfold eqNs at h
    split at h
    · rename_i c hc
      cases hb : ((f.name != "_") && Nat.beq f.offset i && Nat.beq (P.cellsOf f.type) c && (P.info? f.type).isSome) with
      | false => rw [hb] at h; cases h
      | true =>
        rw [hb, cond_true] at h
        simp only [Bool.and_eq_true, bne_iff_ne, ne_eq] at hb
        obtain ⟨⟨⟨h1, h2⟩, h3⟩, h4⟩ := hb
        have h2 := Nat.eq_of_beq_eq_true h2
        have h3 := Nat.eq_of_beq_eq_true h3
        obtain ⟨inf, hinf⟩ := Option.isSome_iff_exists.1 h4
        obtain ⟨td, hu⟩ := eqN_under hc
        obtain ⟨g1, g2⟩ := eqNs_ok ih hk W fs (i + c) n h hp hq
        have hpp := part_mk hu hinf (ps := ps) (o := i) h3 (eqN_int hc) (by omega) W
        have hqp := part_mk hu hinf (ps := qs) (o := i) h3 (eqN_int hc) (by omega) W
        have he := ih _ _ hc ((ps.drop i).take c) ((qs.drop i).take c) W (by rw [List.length_take, List.length_drop]; omega) (by rw [List.length_take, List.length_drop]; omega) (hk.part i c)
        refine ⟨by omega, ?_⟩
        rw [eqZ_split i c]
        simp only [Op.eqFields, h1, ne_eq, not_false_eq_true, if_true, Sem.run_bind, h2, hpp, hqp, he, Result.andThen_ok]
        cases hb2 : (((ps.drop i).take c).zip ((qs.drop i).take c)).all (fun z => z.1.2 == z.2.2) with
        | false => simp
        | true => simp [g2]
    · cases h
theorem eqNi_ok {P : Program} {d D : Nat} {e : TypeId} {c : Nat} {inf : TypeInfo} (hc : eqN P d e = some c) (hinf : P.info? e = some inf) (hce : P.cellsOf e = c)
    (ih : ∀ (ps qs : List (IntKind × Int)) W, ps.length = c → qs.length = c → fitK2 ps qs → (Op.equalIn (d + D) e (mkE P e ps) (mkE P e qs)).run P W = .ok ((ps.zip qs).all fun z => z.1.2 == z.2.2) W)
    {ps qs : List (IntKind × Int)} (hk : fitK2 ps qs) (W : World) : ∀ (m i : Nat), ps.length = (i + m) * c → qs.length = (i + m) * c →
      (Op.eqItems (d + D) e c (ps.map fun p => Value.int p.1 p.2).toArray (qs.map fun p => Value.int p.1 p.2).toArray (List.range' i m)).run P W = .ok (((ps.drop (i * c)).zip (qs.drop (i * c))).all fun z => z.1.2 == z.2.2) W
  | 0, i, hp, hq => by
    rw [Nat.add_zero] at hp
    rw [← hp, List.drop_length]
    simp [Op.eqItems]
  | m + 1, i, hp, hq => by
    obtain ⟨td, hu⟩ := eqN_under hc
    have hle : i * c + c ≤ (i + (m + 1)) * c := by
      have : i * c + c = (i + 1) * c := by rw [Nat.add_mul, Nat.one_mul]
      rw [this]; exact Nat.mul_le_mul_right _ (by omega)
    have hpp := part_mk hu hinf (ps := ps) (o := i * c) hce (eqN_int hc) (by omega) W
    have hqp := part_mk hu hinf (ps := qs) (o := i * c) hce (eqN_int hc) (by omega) W
    have he := ih ((ps.drop (i * c)).take c) ((qs.drop (i * c)).take c) W (by rw [List.length_take, List.length_drop]; omega) (by rw [List.length_take, List.length_drop]; omega) (hk.part (i * c) c)
    have g2 := eqNi_ok hc hinf hce ih hk W m (i + 1) (by rw [hp]; congr 1; omega) (by rw [hq]; congr 1; omega)
    rw [show (i + 1) * c = i * c + c by rw [Nat.add_mul, Nat.one_mul]] at g2
    rw [eqZ_split (i * c) c, List.range'_succ]
    simp only [Op.eqItems, Sem.run_bind, hpp, hqp, he, Result.andThen_ok]
    cases hb2 : (((ps.drop (i * c)).take c).zip ((qs.drop (i * c)).take c)).all (fun z => z.1.2 == z.2.2) with
    | false => simp
    | true => simp [g2]
theorem eqN_ok {P : Program} : ∀ (d : Nat) (t : TypeId) (n : Nat), eqN P d t = some n → ∀ (D : Nat) (ps qs : List (IntKind × Int)) (W : World), ps.length = n → qs.length = n → fitK2 ps qs → (Op.equalIn (d + D) t (mkE P t ps) (mkE P t qs)).run P W = .ok ((ps.zip qs).all fun z => z.1.2 == z.2.2) W
  | 0, t, n, h, _, _, _, _, _, _, _ => by cases h
  | d + 1, t, n, h, D, ps, qs, W, hp, hq, hk => by
    rw [show d + 1 + D = (d + D) + 1 by omega]
    have ih := fun t n (h : eqN P d t = some n) ps qs W => eqN_ok d t n h D ps qs W
    unfold eqN at h
    split at h
    · rename_i k hu
      cases h
      match ps, hp, qs, hq with
      | [p], _, [q], _ =>
        have hkk := hk 0 p q rfl rfl
        have ha : aggT P t = false := by unfold aggT; rw [hu]
        simp only [mkE, ha, cond_false]
        rw [hkk, run_equalIn_int W (d + D) t q.1 k p.2 q.2 hu]
        simp
    · rename_i m e hu
      split at h
      · rename_i c hc
        cases hb : ((P.info? e).isSome && Nat.beq (P.cellsOf e) c) with
        | false => rw [hb] at h; cases h
        | true =>
          rw [hb, cond_true] at h
          cases h
          simp only [Bool.and_eq_true] at hb
          obtain ⟨inf, hinf⟩ := Option.isSome_iff_exists.1 hb.1
          have hce := Nat.eq_of_beq_eq_true hb.2
          have ha : aggT P t = true := by unfold aggT; rw [hu]
          rw [mkE_agg ha, mkE_agg ha, run_equalIn_array W (d + D) _ _ hu hinf, hce, List.range_eq_range']
          have := eqNi_ok (D := D) hc hinf hce (ih e c hc) hk W m 0 (by rw [hp]; simp) (by rw [hq]; simp)
          simpa using this
      · cases h
    · rename_i fs hu
      cases hs : P.stoodInHeld t with
      | true => rw [hs] at h; cases h
      | false =>
        rw [hs, cond_false] at h
        have ha : aggT P t = true := by unfold aggT; rw [hu]
        have hfo : P.fieldsOf t = fs := by simp [Program.fieldsOf, hu]
        have ht' : P.underlying t = some (.struct (P.fieldsOf t)) := by rw [hfo]; exact hu
        rw [mkE_agg ha, mkE_agg ha, run_equalIn_struct W (d + D) t _ _ ht' hs, hfo]
        have := (eqNs_ok (D := D) ih hk W fs.toList 0 n h hp hq).2
        simpa using this
    · cases h

theorem sem_bin0 (hS : StatOK P S) (hg : S.glb = glb) (m : Mt P glb Bk X0 w0 st ρ a W) {op : BinOp} {t t' : TypeId} {x y : Operand} (hop : o.op = .binOp op t x y t')
    (h : oneC (ev S st t x) fun c => oneC (ev S st t' y) fun d => binS dr (isBoolT (S.ty t)) (S.sl t).isSome st.look op c d fun r => Q r []) : OpOut P o a W (Fits P glb Bk X0 w0 st ρ a W Q) := by
  obtain ⟨c, h, hc⟩ := oneC_ok h (ev_ok hS hg m _ x)
  obtain ⟨d, h, hd⟩ := oneC_ok h (ev_ok hS hg m _ y)
  unfold binS at h
  split at h
  · obtain ⟨v, hv, _, h1⟩ := hc
    obtain ⟨v2, hv2, _, h2⟩ := hd
    cases hv; cases hv2
    rcases sem_shr m hop h1 h2 h with h | ⟨h, _, _⟩
    · exact h
    · obtain ⟨hk, h⟩ := chk_iff.1 h
      have hk' := of_decide_eq_true hk
      subst hk'
      exact sem_binI m hop h1 h2 h
  · obtain ⟨ht, h⟩ := chk_iff.1 h
    obtain ⟨v, hv, _, h1⟩ := hc
    obtain ⟨v2, hv2, _, h2⟩ := hd
    cases hv; cases hv2
    have hb : P.underlying t = some .bool := by
      unfold isBoolT at ht
      split at ht
      · rename_i b hti; exact hS.bool t b hti
      · cases ht
    exact sem_binB m hop hb h1 h2 h
  · obtain ⟨ht, h⟩ := chk_iff.1 h
    obtain ⟨e0, he0⟩ := Option.isSome_iff_exists.1 ht
    refine sem_nil (dr := dr) m hop (hS.sl t e0 he0) hc hd ?_
    cases op <;> exact h
  · exact h.elim

theorem aggC_ok {v w : SV} {k : List SC → List SC → Prop} {p : Prop} (h : aggC v w k p) : p ∨ ∃ cs ds, v = .mk true cs ∧ w = .mk true ds ∧ k cs ds := by
  unfold aggC at h
  split at h
  · exact .inr ⟨_, _, rfl, rfl, h⟩
  · exact .inl h

theorem sem_eqAgg (hS : StatOK P S) (m : Mt P glb Bk X0 w0 st ρ a W) {op : BinOp} {t t' : TypeId} {x y : Operand} (hop : o.op = .binOp op t x y t') {cs ds : List SC} (hc : RepV P ρ (Xs st ρ X0) W (.mk true cs) (a.eval x)) (hd : RepV P ρ (Xs st ρ X0) W (.mk true ds) (a.eval y))
    (h : eqAgg (S.eq t) op cs ds fun r => Q r []) : OpOut P o a W (Fits P glb Bk X0 w0 st ρ a W Q) := by
  obtain ⟨n, hn, h1⟩ := optK_ok h
  obtain ⟨hl, h2⟩ := chk_iff.1 h1
  simp only [Bool.and_eq_true] at hl
  have hl1 := Nat.eq_of_beq_eq_true hl.1
  have hl2 := Nat.eq_of_beq_eq_true hl.2
  obtain ⟨b, hb, h3⟩ := optK_ok h2
  obtain ⟨us, hx, hu⟩ := hc
  obtain ⟨vs, hy, hv⟩ := hd
  obtain ⟨ps, qs, e1, e2, e3, e4, e5⟩ := eqIs_ok hb hu hv
  have hlu := hu.length
  have hlv := hv.length
  have hps : ps.length = n := by rw [← hl1, ← hlu, e1, List.length_map]
  have key : (Op.equalIn 10000 t (.agg us.toArray) (.agg vs.toArray)).run P W = .ok b W ∧ P.eqGuardType P.depth t = false := by
   rcases hS.eq t n hn with ⟨fs, ht, hsz, hsh, hgd, hfs⟩ | ⟨e, i, k, ht, hi, hc1, hgd, hk⟩ | ⟨hen, hgd, hag⟩
   · refine ⟨?_, hgd⟩
     have hfo : P.fieldsOf t = fs := by simp [Program.fieldsOf, ht]
     have ht' : P.underlying t = some (.struct (P.fieldsOf t)) := by rw [hfo]; exact ht
     rw [run_equalIn_struct W 9999 t _ _ ht' hsh, hfo, e5]
     refine eqFields_ok 9998 _ _ W fs.toList ps qs 0 (by simp [hps, hsz]) (by simp [← e3, hps, hsz]) (fun j fd hj => ?_) (fun j p hj => ?_) (fun j p hj => ?_) e4
     · have := hfs j fd (by simpa using hj)
       simpa using this
     · rw [Nat.zero_add, e1]; simp [hj]
     · rw [Nat.zero_add, e2]; simp [hj]
   · refine ⟨?_, hgd⟩
     rw [run_equalIn_array W 9999 _ _ ht hi, hc1, e5]
     have := eqItems_ok 9998 us.toArray vs.toArray W hk ps qs 0 (by rw [← e3]) (fun j p hj => by rw [Nat.zero_add, e1]; simp [hj]) (fun j p hj => by rw [Nat.zero_add, e2]; simp [hj]) e4
     rw [hps] at this
     simpa [List.range_eq_range'] using this
   · refine ⟨?_, hgd⟩
     have := eqN_ok 20 t n hen 9980 ps qs W hps (by rw [← e3]; exact hps) e4
     rw [mkE_agg hag, mkE_agg hag, ← e1, ← e2] at this
     rw [this, e5]
  obtain ⟨hrun, hgd⟩ := key
  have hg : ∀ op, (eqGuard op t x y (.agg us.toArray) (.agg vs.toArray)).run P W = .ok () W := fun op => run_eqGuard_agg W op t x y _ _ hgd
  have run : ∀ v, (binOp op t (.agg us.toArray) (.agg vs.toArray)).run P W = .ok v W → (execOp a.eval o).run P W = .ok (.value v) W := by
    intro v hv
    refine exec_v (s := do eqGuard op t x y (a.eval x) (a.eval y); binOp op t (a.eval x) (a.eval y)) (by unfold execOp; rw [hop]) ?_
    rw [hx, hy, Sem.run_bind, hg]; exact hv
  cases op <;> first | exact h3.elim | skip
  case eql => exact .plain m (run (.bool b) (by rw [run_eql_struct, hrun]; rfl)) h3 (rep_bool _)
  case neq => exact .plain m (run (.bool (!b)) (by rw [run_neq_struct, hrun]; rfl)) h3 (rep_bool _)

theorem sem_bin (hS : StatOK P S) (hg : S.glb = glb) (m : Mt P glb Bk X0 w0 st ρ a W) {op : BinOp} {t t' : TypeId} {x y : Operand} (hop : o.op = .binOp op t x y t')
    (h : aggC (ev S st t x) (ev S st t' y) (fun cs ds => eqAgg (S.eq t) op cs ds fun r => Q r []) <| oneC (ev S st t x) fun c => oneC (ev S st t' y) fun d => binS dr (isBoolT (S.ty t)) (S.sl t).isSome st.look op c d fun r => Q r []) : OpOut P o a W (Fits P glb Bk X0 w0 st ρ a W Q) := by
  rcases aggC_ok h with h | ⟨cs, ds, h1, h2, h3⟩
  · exact sem_bin0 hS hg m hop h
  · exact sem_eqAgg hS m hop (by rw [← h1]; exact ev_ok hS hg m t x) (by rw [← h2]; exact ev_ok hS hg m t' y) h3

theorem sem_convert (hS : StatOK P S) (hg : S.glb = glb) (m : Mt P glb Bk X0 w0 st ρ a W) {t0 t : TypeId} {x : Operand} (hop : o.op = .convert t0 t x)
    (h : optK (S.ty t0) fun _ => optK (S.ty t) fun i => oneI (ev S st t0 x) fun n => cvtS i.kd n fun r => Q r []) : OpOut P o a W (Fits P glb Bk X0 w0 st ρ a W Q) := by
  obtain ⟨i0, hi0, h1⟩ := optK_ok h
  obtain ⟨i, hi, h2⟩ := optK_ok h1
  obtain ⟨k0, n, h3, hx⟩ := oneI_ok h2 (ev_ok hS hg m t0 x)
  obtain ⟨kd, bytes⟩ := i
  cases kd with
  | int k =>
    have hu := hS.int t k bytes hi
    have hik : P.intKind t = k := by simp [Program.intKind, hu]
    refine .plain m (v := .int k (k.wrap n)) (exec_v (s := convert t0 t (a.eval x)) (by unfold execOp; rw [hop]) ?_) h3 (rep_int _ _)
    have := run_convert_int (P := P) W t0 t k0 n (hS.dfd t0 i0 hi0) (by rw [hik]; exact hu)
    rw [hik] at this
    rw [hx]; exact this
  | _ => exact h3.elim

theorem sem_un (hS : StatOK P S) (hg : S.glb = glb) (m : Mt P glb Bk X0 w0 st ρ a W) {op : UnOp} {t : TypeId} {x : Operand} (hop : o.op = .unOp op t x) (h : oneC (ev S st o.type x) fun c => unS op c fun r => Q r []) : OpOut P o a W (Fits P glb Bk X0 w0 st ρ a W Q) := by
  obtain ⟨c, h, hc⟩ := oneC_ok h (ev_ok hS hg m _ x)
  cases op <;> cases c <;> try exact h.elim
  case not.d K x0 =>
    cases K <;> try exact h.elim
    obtain ⟨v, hv, _, h1⟩ := hc
    cases hv
    refine .plain m (exec_v (s := Op.unary .not (a.eval x)) (v := .bool (Bool.not x0)) (by unfold execOp; rw [hop]) ?_) h (rep_bool _)
    rw [show a.eval x = _ from h1]; rfl
  case neg.d K x0 =>
    cases K <;> try exact h.elim
    rename_i kk
    obtain ⟨v, hv, _, h1⟩ := hc
    cases hv
    refine .plain m (exec_v (s := Op.unary .neg (a.eval x)) (v := .int kk (kk.wrap (Int.sub 0 x0))) (by unfold execOp; rw [hop]) ?_) h (rep_int _ _)
    rw [show a.eval x = _ from h1]; rfl

theorem RepC.ptr_of_cells (m : Mt P glb Bk X0 w0 st ρ a W) {c c' : SC} {n : Nat} {v : Value} (h : moveP n c = some c') (hv : RepC P ρ (Xs st ρ X0) W c v) : ∃ ad : Addr, v = .pointer (some ad) ∧ RepC P ρ (Xs st ρ X0) W c' (.pointer (some (ad.add n))) := by
  have plainAdd : ∀ (b off i : Nat), (⟨b, off, none⟩ : Addr).add i = ⟨b, off + i, none⟩ := by
    intro b off i; unfold Addr.add; split <;> simp_all
  have addAdd : ∀ (ad : Addr) (i j : Nat), (ad.add i).add j = ad.add (i + j) := by
    intro ad i j
    unfold Addr.add
    by_cases hi : i = 0 <;> by_cases hj : j = 0 <;> simp [hi, hj, Nat.add_assoc]
  cases c with
  | ptr l off =>
    obtain ⟨b, hρ, rfl⟩ := hv
    cases h
    exact ⟨_, rfl, b, hρ, by rw [plainAdd]⟩
  | ep l j sz off =>
    obtain ⟨b, k, cc, hρ, rfl, hj⟩ := hv
    cases h
    exact ⟨_, rfl, b, k, cc, hρ, by rw [addAdd, Nat.add_assoc], hj⟩
  | dp K x off =>
    obtain ⟨ad, cs, rfl, h1, h2, h3, h4⟩ := hv
    cases h
    exact ⟨_, rfl, ad, cs, by rw [addAdd], h1, h2, h3, h4⟩
  | iep l vl j i sz off =>
    obtain ⟨us, ad, k, cc, hu, hj, rfl, hi, hl⟩ := hv
    cases h
    exact ⟨_, rfl, us, ad, k, cc, hu, hj, by rw [addAdd, Nat.add_assoc], hi, hl⟩
  | d K x =>
    cases K with
    | ptr t K =>
      cases h
      obtain ⟨v', hv', _, b, arr, rfl, hx, hb, hc⟩ := hv
      cases hv'
      refine ⟨_, rfl, ⟨b, 0, none⟩, arr.toList, rfl, hx, (Array.getElem?_eq_some_iff.1 hb).1, hc, fun i u hu => ?_⟩
      rw [plainAdd, cell_of_row W b (0 + i) arr t (0, 0) hb]
      simpa using hu
    | _ => cases h
  | _ => cases h

theorem run_sizeOf (hS : StatOK P S) {t : TypeId} {i : TI} (ht : S.ty t = some i) (W : World) : (sizeOf t).run P W = .ok i.kd.n W := by
  obtain ⟨_, ⟨inf, z, h1, h2, _⟩, _⟩ := hS.ty t i ht
  simp [sizeOf, typeInfo, h1, h2]

theorem sem_fieldAddr (hS : StatOK P S) (hg : S.glb = glb) (m : Mt P glb Bk X0 w0 st ρ a W) {t : TypeId} {x : Operand} {f : Nat} (hop : o.op = .fieldAddr t x f)
    (h : optK (S.fld t f) fun p => optK (S.ty p.2) fun i => chk (Nat.ble 1 i.kd.n) (oneC (ev S st t x) fun c => optK (moveP p.1 c) fun c' => Q (.mk false [c']) [])) : OpOut P o a W (Fits P glb Bk X0 w0 st ρ a W Q) := by
  obtain ⟨p, hp, h⟩ := optK_ok h
  obtain ⟨i, hi, h⟩ := optK_ok h
  obtain ⟨hn, h⟩ := chk_iff.1 h
  obtain ⟨c, h, hc⟩ := oneC_ok h (ev_ok hS hg m _ x)
  obtain ⟨c', hm, h⟩ := optK_ok h
  obtain ⟨fs, fd, hu, hf, ho, hty, _⟩ := hS.fld t f p hp
  obtain ⟨ad, he, hr⟩ := hc.ptr_of_cells m hm
  have hn' : i.kd.n ≠ 0 := by have := Nat.le_of_ble_eq_true hn; omega
  refine .plain m (exec_v (s := Instr.fieldAt t (a.eval x) f) (v := .pointer (some (ad.add p.1))) (by unfold execOp; rw [hop]) ?_) h ⟨c', rfl, hr⟩
  have hsz := run_sizeOf hS hi W
  rw [← hty] at hsz
  simp [Instr.fieldAt, run_underlying hu, hf, he, Instr.sureAddr, fieldPlace, hsz, hn', ho]
end
end Go.GX
set_option linter.unusedVariables false
namespace Go.GX
variable [Inhabited BaseD]
open Go.RowKit Go.Shelf Go.Proofs

section
variable {P : Program} {glb : Nat → Option GV} {Bk X0 : Nat → Prop} {w0 : World} {st : St} {ρ : Lab} {a : Act} {W W' : World} {S : Stat} {dr : Bool} {lab : Nat} {o : Oper} {Q : Eff}

theorem kd_n_one {K : Kd} (h : K.arg = true) (h' : K.isAgg = false) : K.n = 1 := by
  cases K <;> first | rfl | (simp [Kd.arg] at h; done) | (simp [Kd.isAgg] at h'; done)

theorem sem_load (hS : StatOK P S) (hg : S.glb = glb) (m : Mt P glb Bk X0 w0 st ρ a W) {t : TypeId} {x : Operand} (hop : o.op = .load t x)
    (h : optK (S.ty t) fun i => oneC (ev S st t x) fun c => optK (cellsAt st.look c) fun cs => chk (Nat.ble i.kd.n cs.length) (Q (.mk i.kd.isAgg (cs.take i.kd.n)) [])) : OpOut P o a W (Fits P glb Bk X0 w0 st ρ a W Q) := by
  obtain ⟨i, hi, h⟩ := optK_ok h
  obtain ⟨c, h, hc⟩ := oneC_ok h (ev_ok hS hg m _ x)
  obtain ⟨cs, hcs, h⟩ := optK_ok h
  obtain ⟨hn, h⟩ := chk_iff.1 h
  have hn := Nat.le_of_ble_eq_true hn
  obtain ⟨ad, us, he, hr, hcell⟩ := cellsAt_ok m hcs hc
  have hlen := hr.length
  have hsz := run_sizeOf hS hi W
  obtain ⟨harg, _, hagg⟩ := hS.ty t i hi
  have hagg := hagg W
  have hr' := hr.take i.kd.n
  cases hb : i.kd.isAgg with
  | true =>
    rw [hb] at h hagg
    have hl : (loadCells ad (us.take i.kd.n).length).run P W = .ok (us.take i.kd.n).toArray W := run_loadCells_list W ad _ (fun j v hv => by
      rw [List.getElem?_take] at hv
      split at hv
      · exact hcell j v hv
      · cases hv)
    rw [List.length_take, Nat.min_eq_left (by omega)] at hl
    refine .plain m (exec_v (s := Instr.loadAt t (a.eval x)) (v := .agg (us.take i.kd.n).toArray) (by unfold execOp; rw [hop]) ?_) h ⟨_, rfl, hr'⟩
    simp only [Instr.loadAt, he, Instr.sureAddr, loadVar, Sem.run_bind, Sem.run_pure, Result.andThen_ok, hagg, if_true, hsz, hl]
  | false =>
    rw [hb] at h hagg
    have h1 := kd_n_one harg hb
    rw [h1] at h hn hr'
    cases us with
    | nil => simp at hlen; omega
    | cons u us =>
      cases cs with
      | nil => simp at hn
      | cons c0 cs =>
        obtain ⟨v0, vs0, hv0, hrc, _⟩ := hr
        cases hv0
        have hc0 := hcell 0 u rfl
        rw [addZero] at hc0
        refine .plain m (exec_v (s := Instr.loadAt t (a.eval x)) (v := u) (by unfold execOp; rw [hop]) ?_) h ⟨c0, rfl, hrc⟩
        simp [Instr.loadAt, he, Instr.sureAddr, loadVar, hagg, run_load, hc0]

theorem sem_field (hS : StatOK P S) (hg : S.glb = glb) (m : Mt P glb Bk X0 w0 st ρ a W) {t : TypeId} {x : Operand} {f : Nat} (hop : o.op = .field t x f)
    (h : optK (S.fld t f) fun p => optK (S.ty p.2) fun i => match ev S st t x with
      | .mk true cs => chk (Nat.ble (p.1 + i.kd.n) cs.length) (Q (.mk i.kd.isAgg ((cs.drop p.1).take i.kd.n)) [])
      | _ => False) : OpOut P o a W (Fits P glb Bk X0 w0 st ρ a W Q) := by
  obtain ⟨p, hp, h⟩ := optK_ok h
  obtain ⟨i, hi, h⟩ := optK_ok h
  have hev := ev_ok hS hg m t x
  split at h
  · rename_i cs hcs
    rw [hcs] at hev
    obtain ⟨us, he, hr⟩ := hev
    obtain ⟨hn, h⟩ := chk_iff.1 h
    have hn := Nat.le_of_ble_eq_true hn
    obtain ⟨fs, fd, hu, hf, ho, hty, _⟩ := hS.fld t f p hp
    have hlen := hr.length
    have hsz := run_sizeOf hS hi W
    obtain ⟨harg, _, hagg⟩ := hS.ty _ i hi
    have hagg := hagg W
    have hr' := (hr.drop p.1).take i.kd.n
    cases hb : i.kd.isAgg with
    | true =>
      rw [hb] at h hagg
      have hex : us.toArray.extract p.1 (p.1 + i.kd.n) = ((us.drop p.1).take i.kd.n).toArray := by
        apply Array.ext'
        simp
      refine .plain m (exec_v (s := Instr.field t (a.eval x) f) (v := .agg ((us.drop p.1).take i.kd.n).toArray) (by unfold execOp; rw [hop]) ?_) h ⟨_, rfl, hr'⟩
      simp only [Instr.field, run_underlying hu, hf, he, asAgg, part, hty, Sem.run_bind, Sem.run_pure, Result.andThen_ok, hagg, if_true, hsz, ho, hex]
    | false =>
      rw [hb] at h hagg
      have h1 := kd_n_one harg hb
      rw [h1] at h hn hr'
      have hlt : p.1 < us.length := by omega
      have hus : us[p.1]? = some us[p.1] := List.getElem?_eq_getElem hlt
      have hdt : (us.drop p.1).take 1 = [us[p.1]] := by
        rw [List.drop_eq_getElem_cons hlt]; rfl
      have hlt' : p.1 < cs.length := by omega
      have hdc : (cs.drop p.1).take 1 = [cs[p.1]] := by
        rw [List.drop_eq_getElem_cons hlt']; rfl
      rw [hdt, hdc] at hr'
      rw [hdc] at h
      obtain ⟨v0, vs0, hv0, hrc, _⟩ := hr'
      cases hv0
      refine .plain m (exec_v (s := Instr.field t (a.eval x) f) (v := us[p.1]) (by unfold execOp; rw [hop]) ?_) h ⟨_, rfl, hrc⟩
      simp [Instr.field, run_underlying hu, hf, he, asAgg, part, hty, hagg, ho, hus]
  · exact h.elim

theorem xl_false {k : Nat} : Xs st ρ X0 k → Xl st ρ X0 (fun _ => false) k := by
  rintro (h | ⟨l, he, s, v, h1, h2, h3⟩)
  · exact .inl h
  · exact .inr ⟨l, he, s, v, rfl, h1, h2, h3⟩

theorem slData_plain (m : Mt P glb Bk X0 w0 st ρ a W) {c : SC} {K : Kd} {xs : List K.T} {ls : List Nat} {v : Value} (hc : ∀ l, c ≠ .own l) (hc2 : ∀ l vl j, c ≠ .inn l vl j) (hc3 : ∀ l lo hi sz, c ≠ .sub l lo hi sz) (h : slData st.look c = some ⟨K, xs, ls⟩) (hv : RepC P ρ (Xs st ρ X0) W c v) :
    ∀ e : TypeId, ((Kd.sl e K).sem P).val (Xs st ρ X0) W xs v := by
  intro e
  have hls : ls = [] := by
    cases c with
    | own l => exact absurd rfl (hc l)
    | inn l vl j => exact absurd rfl (hc2 l vl j)
    | sub l lo hi sz => exact absurd rfl (hc3 l lo hi sz)
    | d K x => cases K <;> (simp only [slData, Option.some.injEq] at h; try cases h) <;> rfl
    | fr e K xs => cases h; rfl
    | nl e K => cases h; rfl
    | _ => cases h
  subst hls
  have := slData_ok m h hv (fun _ => false) (by simp) e
  exact (Kd.stands P (.sl e K)).val (Evo.mono m.Xlt (fun k => xl_false)) this

theorem run_indexAt (t e : TypeId) (ad : Addr) (len cap : Nat) (k : IntKind) (j : Int) (n : Nat) (ht : P.underlying t = some (.slice e)) (hs : (sizeOf e).run P W = .ok n W) (h0 : 0 ≤ j) (h1 : j < len) :
    (Instr.indexAt t (.slice (some ad) len cap) (.int k j)).run P W = .ok (.pointer (some (ad.add (j.toNat * n)))) W := by
  simp [Instr.indexAt, asIntOf, run_underlying ht, h0, h1, hs]

theorem sem_indexAddrS (hS : StatOK P S) (hg : S.glb = glb) (m : Mt P glb Bk X0 w0 st ρ a W) {t : TypeId} {x ix : Operand} (hop : o.op = .indexAddr t x ix)
    (h : optK (S.sl t) fun e => optK (S.ty e) fun i => oneC (ev S st t x) fun c => oneI (ev S st 0 ix) fun j => idxS st.look i.kd.n c j Q) : OpOut P o a W (Fits P glb Bk X0 w0 st ρ a W Q) := by
  obtain ⟨e, he, h1⟩ := optK_ok h
  clear h
  obtain ⟨i, hi, h⟩ := optK_ok h1
  clear h1
  obtain ⟨c, hh, hc⟩ := oneC_ok h (ev_ok hS hg m _ x)
  clear h
  obtain ⟨k, j, h, hj⟩ := oneI_ok hh (ev_ok hS hg m _ ix)
  clear hh
  have ht := hS.sl t e he
  have hsz := run_sizeOf hS hi W
  have run : ∀ ad len cap, a.eval x = .slice (some ad) len cap → 0 ≤ j → j < (len : Nat) → (execOp a.eval o).run P W = .ok (.value (.pointer (some (ad.add (j.toNat * i.kd.n))))) W := by
    intro ad len cap hx h0 h1
    refine exec_v (s := Instr.indexAt t (a.eval x) (a.eval ix)) (by unfold execOp; rw [hop]) ?_
    rw [hx, hj]
    exact run_indexAt t e ad len cap k j _ ht hsz h0 h1
  have dat : ∀ (K : Kd) (xs : List K.T), ((Kd.sl e K).sem P).val (Xs st ρ X0) W xs (a.eval x) → K.n = i.kd.n → 0 ≤ j → j < (xs.length : Int) → Q (.mk false [.dp K (xs.getD j.toNat K.dflt) 0]) [] → OpOut P o a W (Fits P glb Bk X0 w0 st ρ a W Q) := by
    intro K xs hv hn h0 h1 hQ
    obtain ⟨A, cc, hx, _, _, hr⟩ := hv
    obtain ⟨ad, rfl, hnx, hlt, hget⟩ := hr (by intro h; subst h; simp at h1; omega)
    have hjl : j.toNat < xs.length := by omega
    have hxj : xs[j.toNat]? = some (xs.getD j.toNat K.dflt) := by rw [List.getD_eq_getElem?_getD, List.getElem?_eq_getElem hjl]; rfl
    obtain ⟨ecs, g1, g2⟩ := hget _ _ hxj
    refine .plain m (run ad _ _ hx h0 h1) hQ ⟨_, rfl, ad.add (j.toNat * i.kd.n), ecs, by rw [addZero], ?_, ?_, g1, fun p u hu => ?_⟩
    · rw [add_block]; exact hnx
    · rw [add_block]; exact hlt
    · rw [addAdd, ← hn]; exact g2 p u hu
  unfold idxS at h
  split at h
  · rename_i l
    obtain ⟨hρ, _⟩ := hc
    split at h
    · rename_i nn e' K xs hl
      obtain ⟨hn, h0, h1, hQ⟩ := chk_iff.1 h
      have hn := Nat.eq_of_beq_eq_true hn
      obtain ⟨s, hs⟩ := look_some hl
      obtain ⟨A, cc, hx, _, _, hr⟩ := m.rowElems hs hρ
      obtain ⟨g, rfl, _⟩ := hr (by intro h; subst h; simp at h1; omega)
      rw [hx] at hρ
      refine .plain m (run _ _ _ hx h0 h1) hQ ⟨_, rfl, _, xs.length, cc, hρ, ?_, by omega⟩
      rw [← hn, Nat.add_zero]
    · rename_i nn e' K xs hl
      obtain ⟨hn, h0, h1, hQ⟩ := chk_iff.1 h
      have hn := Nat.eq_of_beq_eq_true hn
      obtain ⟨s, hs⟩ := look_some hl
      obtain ⟨v', hv', hok⟩ := m.hps l _ s hs
      rw [hρ] at hv'; injection hv' with hv'; subst hv'
      exact dat K xs hok.1 hn h0 h1 hQ
    · rename_i e' K xs hl
      obtain ⟨hn, h0, h1, hQ⟩ := chk_iff.1 h
      have hn := Nat.eq_of_beq_eq_true hn
      obtain ⟨s, hs⟩ := look_some hl
      obtain ⟨v', hv', hok⟩ := m.hps l _ s hs
      rw [hρ] at hv'; injection hv' with hv'
      rw [← hv'] at hok
      obtain ⟨hf, A, cc, hx, _, _, hr⟩ := hok
      obtain ⟨ad, rfl, _⟩ := hr (by intro h; subst h; simp at h1; omega)
      rw [hx] at hρ
      refine .plain m (run _ _ _ hx h0 h1) hQ ⟨_, rfl, _, xs.length, cc, hρ, ?_, by omega⟩
      rw [← hn, Nat.add_zero]
    · rename_i nn e' ag e1 K1 xs hole vl hl
      obtain ⟨hn, h0, h1, hQ⟩ := chk_iff.1 h
      have hn := Nat.eq_of_beq_eq_true hn
      obtain ⟨s, hs⟩ := look_some hl
      obtain ⟨v', hv', ⟨us, hu, mo⟩, _⟩ := m.hps l _ s hs
      rw [hρ] at hv'; injection hv' with hv'
      rw [← hv'] at mo
      obtain ⟨hd, ⟨_, ho⟩, _⟩ := mo.out
      rcases ho with ⟨_, hx⟩ | ⟨g, cap, cur, hx, _⟩
      · omega
      · rw [hx] at hρ
        refine .plain m (run _ _ _ hx h0 h1) hQ ⟨_, rfl, _, xs.length, cap, hρ, ?_, by omega⟩
        rw [← hn, Nat.add_zero]
    · exact h.elim
  · rename_i l vl j0
    obtain ⟨us, hu, hj0, _, hil⟩ := hc
    split at h
    · rename_i nn e' ag e1 K1 xs vl' hl
      obtain ⟨hn, h0, h1, hQ⟩ := chk_iff.1 h
      simp only [Bool.and_eq_true] at hn
      obtain rfl := Nat.eq_of_beq_eq_true hn.1
      have hn := Nat.eq_of_beq_eq_true hn.2
      obtain ⟨s, hs⟩ := look_some hl
      obtain ⟨v', hv', ⟨us', hu', mo⟩, _⟩ := m.hps l _ s hs
      rw [hu] at hu'
      obtain rfl := tuple_inj hu'
      have hlt : j0 < xs.length := by rw [← mo.len]; exact (List.getElem?_eq_some_iff.1 hj0).1
      have hxj : xs[j0]? = some (xs.getD j0 []) := by rw [List.getD_eq_getElem?_getD, List.getElem?_eq_getElem hlt]; rfl
      obtain ⟨fl, ⟨_, ho⟩, _⟩ := mo.inr j0 _ _ hj0 hxj rfl
      rcases ho with ⟨_, hx⟩ | ⟨g, cap, cur, hx, _⟩
      · omega
      · refine .plain m (run _ _ _ hx h0 h1) hQ ⟨_, rfl, us, ⟨g, 0, none⟩, _, cap, hu, by rw [hj0, hx], ?_, by omega, hil⟩
        rw [← hn, Nat.add_zero]
    · exact h.elim
  · exact h.elim
  · rename_i hno hno2 hno3
    obtain ⟨d, hd, h⟩ := optK_ok h
    obtain ⟨K, xs, ls⟩ := d
    obtain ⟨hn, h0, h1, hQ⟩ := chk_iff.1 h
    exact dat K xs (slData_plain m hno hno2 hno3 hd hc e) (Nat.eq_of_beq_eq_true hn) h0 h1 hQ

theorem RepT.get {X : Nat → Prop} : ∀ {l vs}, RepT P ρ X W l vs → ∀ (i : Nat) p, l[i]? = some p → ∃ v, vs[i]? = some v ∧ RepV1 P ρ X W p.1 p.2 v
  | c :: r, _, ⟨v, vs', h, h1, h2⟩, 0, d, hd => by
    rw [h]
    simp only [List.getElem?_cons_zero, Option.some.injEq] at hd ⊢
    subst hd
    exact ⟨v, rfl, h1⟩
  | c :: r, _, ⟨v, vs', h, h1, h2⟩, i + 1, d, hd => by
    rw [h]
    simp only [List.getElem?_cons_succ] at hd ⊢
    exact RepT.get h2 i d hd

theorem sem_extract (hS : StatOK P S) (hg : S.glb = glb) (m : Mt P glb Bk X0 w0 st ρ a W) {x : Operand} {ix : Nat} (hop : o.op = .extract x ix)
    (h : match ev S st 0 x with
      | .tup vs => match vs[ix]? with
        | some p => Q (.mk p.1 p.2) []
        | none => False
      | _ => False) : OpOut P o a W (Fits P glb Bk X0 w0 st ρ a W Q) := by
  have hev := ev_ok hS hg m 0 x
  split at h
  · rename_i vs hvs
    rw [hvs] at hev
    obtain ⟨us, he, hr⟩ := hev
    split at h
    · rename_i p hp
      obtain ⟨v, hv, hrv⟩ := hr.get ix p hp
      refine .plain m (exec_v (s := Instr.extract (a.eval x) ix) (v := v) (by unfold execOp; rw [hop]) ?_) h hrv
      rw [he]
      simp [Instr.extract, hv]
    · exact h.elim
  · exact h.elim

theorem capsOf_ok {X : Nat → Prop} : ∀ (ss : List SV) (cs : List Cap) (vs : List Value), capsOf ss = some cs → RepVs P ρ X W ss vs → RepCaps P ρ X W cs vs
  | [], cs, vs, h, hv => by cases h; exact hv
  | .mk false [.ptr l 0] :: r, cs, vs, h, ⟨v, vs', hvs, h1, h2⟩ => by
    simp only [capsOf] at h
    cases hr : capsOf r with
    | none => rw [hr] at h; cases h
    | some cs' =>
      rw [hr] at h
      cases h
      obtain ⟨c, hc, hcc⟩ := h1
      cases hc
      obtain ⟨b, hρ, hv⟩ := hcc
      exact ⟨v, vs', by assumption, ⟨by rw [hρ, hv], b, hv⟩, capsOf_ok r cs' vs' hr h2⟩
  | .mk false [.d (.ptr t K) x] :: r, cs, vs, h, ⟨v, vs', hvs, h1, h2⟩ => by
    simp only [capsOf] at h
    cases hr : capsOf r with
    | none => rw [hr] at h; cases h
    | some cs' =>
      rw [hr] at h
      cases h
      obtain ⟨c, hc, hcc⟩ := h1
      cases hc
      exact ⟨v, vs', hvs, val_of_cells hcc rfl rfl, capsOf_ok r cs' vs' hr h2⟩

theorem evs_ok (hS : StatOK P S) (hg : S.glb = glb) (m : Mt P glb Bk X0 w0 st ρ a W) (t : TypeId) : ∀ (xs : List Operand), RepVs P ρ (Xs st ρ X0) W (xs.map (ev S st t)) (xs.map a.eval)
  | [] => rfl
  | x :: r => ⟨_, _, rfl, ev_ok hS hg m t x, evs_ok hS hg m t r⟩

theorem sem_makeFunc (hS : StatOK P S) (hg : S.glb = glb) (m : Mt P glb Bk X0 w0 st ρ a W) {f : FuncId} {fi caps : Array Operand} (hop : o.op = .makeFunc (.func f) fi caps)
    (h : chk (Nat.beq fi.toList.length 0) (optK (capsOf (caps.toList.map (ev S st 0))) fun cs => Q (.mk false [.clo f cs]) [])) : OpOut P o a W (Fits P glb Bk X0 w0 st ρ a W Q) := by
  obtain ⟨hn, h⟩ := chk_iff.1 h
  obtain ⟨cs, hcs, h⟩ := optK_ok h
  have hfi : fi = #[] := by
    have := Nat.eq_of_beq_eq_true hn
    apply Array.ext'
    simpa using this
  have hr := capsOf_ok _ cs _ hcs (evs_ok hS hg m 0 caps.toList)
  refine .plain m (exec_v (s := Instr.makeFunc (.func f) (fi.map a.eval) (caps.map a.eval)) (v := .func (.func f) #[] (caps.toList.map a.eval).toArray) (by unfold execOp; rw [hop]) ?_) h ⟨_, rfl, _, rfl, hr⟩
  subst hfi
  have : (caps.toList.map a.eval).toArray = caps.map a.eval := by apply Array.ext'; simp
  rw [this]
  simp [Instr.makeFunc]

theorem sem_len (hS : StatOK P S) (hg : S.glb = glb) (m : Mt P glb Bk X0 w0 st ρ a W) {cl : Call} {x : Operand} {t : TypeId} (hop : o.op = .call cl) (hc1 : cl.callee = .builtin .len) (hc2 : cl.args.toList = [x]) (hc3 : cl.argTypes.toList = [t])
    (h : optK (S.sl t) fun _ => oneC (ev S st t x) fun c => optK (slData st.look c) fun d => lenS dr d.2.1.length (Q (intSV .i64 (d.2.1.length : Int)) [])) : OpOut P o a W (Fits P glb Bk X0 w0 st ρ a W Q) := by
  obtain ⟨e, he, h⟩ := optK_ok h
  obtain ⟨c, h, hc⟩ := oneC_ok h (ev_ok hS hg m _ x)
  obtain ⟨d, hd, h⟩ := optK_ok h
  obtain ⟨K, xs, ls⟩ := d
  obtain ⟨A, cc, hx, hl1, hl2, _⟩ := slData_ok m hd hc (fun _ => true) (fun _ _ => rfl) e
  have h : Q (intSV .i64 (xs.length : Int)) [] := by
    cases dr with
    | true => exact h
    | false => exact h (by unfold maxLen at hl2; simp only at hl1 ⊢; omega)
  have ha : cl.args = #[x] := Array.ext' hc2
  have hat : cl.argTypes = #[t] := Array.ext' hc3
  refine .plain m (v := .int .i64 xs.length) ?_ h (rep_int _ _)
  unfold execOp
  rw [hop]
  simp [resolve, hc1, invoke, builtin, ha, hat, hx, Builtin.len_, run_underlying (hS.sl t e he), goInt]

theorem sem_max (hS : StatOK P S) (hg : S.glb = glb) (m : Mt P glb Bk X0 w0 st ρ a W) {cl : Call} {x y : Operand} (hop : o.op = .call cl) (hc1 : cl.callee = .builtin .max) (hc2 : cl.args.toList = [x, y])
    (h : oneIK (ev S st o.type x) fun q a => oneI (ev S st o.type y) fun b => Q (intSV q (mxI a b)) []) : OpOut P o a W (Fits P glb Bk X0 w0 st ρ a W Q) := by
  obtain ⟨k, p, h, hx⟩ := oneIK_ok h (ev_ok hS hg m _ x)
  obtain ⟨k', q, h, hy⟩ := oneI_ok h (ev_ok hS hg m _ y)
  have ha : cl.args = #[x, y] := Array.ext' hc2
  refine .plain m (v := .int k (mxI p q)) ?_ h (rep_int _ _)
  unfold execOp
  rw [hop]
  simp [resolve, hc1, invoke, builtin, ha, hx, hy, Builtin.max_, Builtin.max2, mxI]

theorem sem_min (hS : StatOK P S) (hg : S.glb = glb) (m : Mt P glb Bk X0 w0 st ρ a W) {cl : Call} {x y : Operand} (hop : o.op = .call cl) (hc1 : cl.callee = .builtin .min) (hc2 : cl.args.toList = [x, y])
    (h : oneIK (ev S st o.type x) fun q a => oneI (ev S st o.type y) fun b => Q (intSV q (mnI a b)) []) : OpOut P o a W (Fits P glb Bk X0 w0 st ρ a W Q) := by
  obtain ⟨k, p, h, hx⟩ := oneIK_ok h (ev_ok hS hg m _ x)
  obtain ⟨k', q, h, hy⟩ := oneI_ok h (ev_ok hS hg m _ y)
  have ha : cl.args = #[x, y] := Array.ext' hc2
  refine .plain m (v := .int k (mnI p q)) ?_ h (rep_int _ _)
  unfold execOp
  rw [hop]
  simp [resolve, hc1, invoke, builtin, ha, hx, hy, Builtin.min_, Builtin.min2, mnI]

theorem zc_ok {X : Nat → Prop} : ∀ (K : Kd), RepCs P ρ X W K.zc K.zv
  | .pair A B => (zc_ok A).append (zc_ok B)
  | .unit => rfl
  | .agg K => zc_ok K
  | .int k => ⟨_, [], rfl, ⟨_, rfl, rfl, rfl⟩, rfl⟩
  | .bool => ⟨_, [], rfl, ⟨_, rfl, rfl, rfl⟩, rfl⟩
  | .str => ⟨_, [], rfl, ⟨_, rfl, rfl, rfl⟩, rfl⟩
  | .sl _ _ => ⟨_, [], rfl, rfl, rfl⟩
  | .nsl _ _ => ⟨_, [], rfl, rfl, rfl⟩
  | .fn _ _ => ⟨_, [], rfl, ⟨rfl, rfl⟩, rfl⟩
  | .ptr _ _ => ⟨_, [], rfl, ⟨rfl, rfl⟩, rfl⟩
  | .seq _ => ⟨_, [], rfl, ⟨rfl, rfl⟩, rfl⟩
  | .mem _ => ⟨_, [], rfl, ⟨rfl, rfl⟩, rfl⟩

theorem zv_length : ∀ (K : Kd), K.zv.length = K.n
  | .pair A B => by simp [Kd.zv, Kd.n, zv_length A, zv_length B]
  | .unit => rfl
  | .agg K => zv_length K
  | .int k => rfl
  | .bool => rfl
  | .str => rfl
  | .sl _ _ => rfl
  | .nsl _ _ => rfl
  | .fn _ _ => rfl
  | .ptr _ _ => rfl
  | .seq _ => rfl
  | .mem _ => rfl

theorem splice_length {α : Type} (cs : List α) (off : Nat) (ds : List α) (h : off + ds.length ≤ cs.length) : (splice cs off ds).length = cs.length := by
  simp [splice]; omega

theorem foldl_set (off : Nat) : ∀ (vs : List Value) (k : Nat) (cells : Array Value), off + k + vs.length ≤ cells.size →
    ((vs.zipIdx k).foldl (fun cs p => cs.setIfInBounds (off + p.2) p.1) cells).toList = splice cells.toList (off + k) vs
  | [], k, cells, _ => by simp [splice]
  | v :: r, k, cells, h => by
    simp only [List.zipIdx_cons, List.foldl_cons]
    rw [foldl_set off r (k + 1) _ (by simp at h ⊢; omega)]
    have hi : off + k < cells.toList.length := by simp at h ⊢; omega
    have e := list_seg_step cells.toList (off + k) v r (by simp at h ⊢; omega)
    simpa [splice, Array.toList_setIfInBounds, Nat.add_assoc, Nat.add_comm, Nat.add_left_comm] using e

theorem fill_set (off : Nat) (v : Value) (cells : Array Value) (h : off + v.cells.size ≤ cells.size) :
    (v.cells.zipIdx.foldl (fun cs (p : Value × Nat) => cs.setIfInBounds (off + p.2) p.1) cells).toList = splice cells.toList off v.cells.toList := by
  have := foldl_set off v.cells.toList 0 cells (by simpa using h)
  rw [Nat.add_zero] at this
  rw [← this, ← Array.foldl_toList, Array.toList_zipIdx]

theorem fill_ok {X : Nat → Prop} (place : Nat → Option (Nat × Nat)) (n : Nat) : ∀ (parts : List (Nat × Value)) (ps : List (Nat × List SC)) (cs : List SC) (cells : Array Value),
    parts.length = ps.length → (∀ (j : Nat) p q, parts[j]? = some p → ps[j]? = some q → place p.1 = some (q.1, q.2.length) ∧ q.1 + q.2.length ≤ n ∧ RepCs P ρ X W q.2 p.2.cells.toList) → cells.size = n → RepCs P ρ X W cs cells.toList →
    ∃ out, Instr.fill place cells parts = some out ∧ RepCs P ρ X W (fldCells ps cs) out.toList
  | [], ps, cs, cells, hl, _, hn, hr => by
    cases ps with
    | nil => exact ⟨cells, rfl, hr⟩
    | cons _ _ => simp at hl
  | p :: parts, ps, cs, cells, hl, hp, hn, hr => by
    cases ps with
    | nil => simp at hl
    | cons q ps =>
      obtain ⟨h1, h2, h3⟩ := hp 0 p q rfl rfl
      have hlen := h3.length
      simp only [Array.length_toList] at hlen
      have hset := fill_set q.1 p.2 cells (by omega)
      have hsz : (p.2.cells.zipIdx.foldl (fun cs (p : Value × Nat) => cs.setIfInBounds (q.1 + p.2) p.1) cells).size = n := by
        rw [← Array.length_toList, hset, splice_length _ _ _ (by simp; omega)]
        simpa using hn
      obtain ⟨out, ho, hr2⟩ := fill_ok place n parts ps (splice cs q.1 q.2) _ (by simpa using hl) (fun j p' q' h h' => hp (j + 1) p' q' (by simpa using h) (by simpa using h')) hsz (by rw [hset]; exact hr.splice q.1 h3)
      refine ⟨out, ?_, hr2⟩
      have hcond : (p.2.cells.size ≠ q.2.length || q.1 + p.2.cells.size > cells.size) = false := by simp; omega
      obtain ⟨i, v⟩ := p
      simp only [Instr.fill, h1]
      simp only at hcond
      rw [if_neg (by simpa using hcond)]
      exact ho

theorem partsS_ok (hS : StatOK P S) (hg : S.glb = glb) (m : Mt P glb Bk X0 w0 st ρ a W) (t : TypeId) (n : Nat) : ∀ (parts : List (Nat × Operand)) (k : List (Nat × List SC) → Prop), partsS S st t n parts k →
    ∃ ps : List (Nat × List SC), k ps ∧ ps.length = parts.length ∧ ∀ (j : Nat) p q, parts[j]? = some p → ps[j]? = some q →
      (∃ fs fd inf, P.underlying t = some (.struct fs) ∧ fs[p.1]? = some fd ∧ fd.offset = q.1 ∧ P.info? fd.type = some inf ∧ inf.size = q.2.length ∧ ∀ fd', fd' ∈ fs → (P.info? fd'.type).isSome = true) ∧ q.1 + q.2.length ≤ n ∧ RepCs P ρ (Xs st ρ X0) W q.2 (a.eval p.2).cells.toList
  | [], k, h => ⟨[], h, rfl, fun j p q hp => by simp at hp⟩
  | (i, x) :: r, k, h => by
    simp only [partsS] at h
    obtain ⟨f, hf, h⟩ := optK_ok h
    obtain ⟨ti, hti, h⟩ := optK_ok h
    obtain ⟨cs, h, hcs⟩ := cellsOf_ok h (ev_ok hS hg m f.2 x)
    obtain ⟨hb, h⟩ := chk_iff.1 h
    simp only [Bool.and_eq_true] at hb
    obtain ⟨ps, hk, hl, hget⟩ := partsS_ok hS hg m t n r _ h
    refine ⟨_, hk, by simp [hl], fun j p q hp hq => ?_⟩
    cases j with
    | zero =>
      simp only [List.getElem?_cons_zero, Option.some.injEq] at hp hq
      subst hp; subst hq
      obtain ⟨fs, fd, hu, hfd, ho, hty, hall⟩ := hS.fld t i f hf
      obtain ⟨_, ⟨inf, z, g1, g2, _⟩, _⟩ := hS.ty f.2 ti hti
      refine ⟨⟨fs, fd, inf, hu, hfd, ho, by rw [hty]; exact g1, ?_, hall⟩, Nat.le_of_ble_eq_true hb.2, hcs⟩
      rw [g2, ← Nat.eq_of_beq_eq_true hb.1]
    | succ j => exact hget j p q (by simpa using hp) (by simpa using hq)

theorem mapM_some {α β : Type} (f : α → Option β) : ∀ (l : List α), (∀ x, x ∈ l → (f x).isSome = true) → ∃ r, l.mapM f = some r ∧ ∀ (i : Nat) x, l[i]? = some x → r[i]? = f x
  | [], _ => ⟨[], rfl, fun i x h => by simp at h⟩
  | x :: l, h => by
    obtain ⟨r, hr, hg⟩ := mapM_some f l (fun y hy => h y (List.mem_cons_of_mem _ hy))
    obtain ⟨y, hy⟩ := Option.isSome_iff_exists.1 (h x (List.mem_cons_self))
    refine ⟨y :: r, by simp [List.mapM_cons, hy, hr], fun i z hz => ?_⟩
    cases i with
    | zero => simp only [List.getElem?_cons_zero, Option.some.injEq] at hz ⊢; subst hz; exact hy.symm
    | succ i => simpa using hg i z (by simpa using hz)

theorem sem_buildS (hS : StatOK P S) (hg : S.glb = glb) (m : Mt P glb Bk X0 w0 st ρ a W) {t : TypeId} {parts : Array (Nat × Operand)} (hop : o.op = .build t parts)
    (h : optK (S.ty t) fun i => partsS S st t i.kd.n parts.toList fun ps => chk (i.kd.isAgg && (S.fld t 0).isSome) (Q (.mk true (fldCells ps i.kd.zc)) [])) : OpOut P o a W (Fits P glb Bk X0 w0 st ρ a W Q) := by
  obtain ⟨i, hi, h⟩ := optK_ok h
  obtain ⟨ps, h, hl, hget⟩ := partsS_ok hS hg m t _ _ _ h
  obtain ⟨hb, h⟩ := chk_iff.1 h
  simp only [Bool.and_eq_true] at hb
  obtain ⟨harg, ⟨inf, z, g1, g2, _, g4, g5⟩, hagg⟩ := hS.ty t i hi

  have hstr : ∃ fs, P.underlying t = some (.struct fs) ∧ ∀ fd', fd' ∈ fs → (P.info? fd'.type).isSome = true := by
    obtain ⟨f, hf⟩ := Option.isSome_iff_exists.1 hb.2
    obtain ⟨fs, fd, hu, _, _, _, hall⟩ := hS.fld t 0 f hf
    exact ⟨fs, hu, hall⟩
  obtain ⟨fs, hu, hall⟩ := hstr
  obtain ⟨places, hpl, hplg⟩ := mapM_some (fun f : Field => (P.info? f.type).map fun i => (f.offset, i.size)) fs.toList (fun fd hfd => by
    have := hall fd (by simpa using hfd)
    simpa using this)
  have hzs : z.cells.size = i.kd.n := by rw [← Array.length_toList, g5, zv_length]
  obtain ⟨out, ho, hr⟩ := fill_ok (P := P) (ρ := ρ) (W := W) (X := Xs st ρ X0) (places.toArray[·]?) i.kd.n (parts.map fun (i, x) => (i, a.eval x)).toList ps i.kd.zc z.cells (by simp [hl]) (fun j p q hp hq => by
    simp only [Array.toList_map, List.getElem?_map, Option.map_eq_some_iff] at hp
    obtain ⟨p0, hp0, rfl⟩ := hp
    obtain ⟨⟨fs', fd, inf', hu', hfd, hoff, hinf, hsz, _⟩, hle, hrep⟩ := hget j p0 q hp0 hq
    rw [hu] at hu'; injection hu' with hu'; injection hu' with hu'; subst hu'
    refine ⟨?_, hle, hrep⟩
    have := hplg p0.1 fd (by simpa using hfd)
    rw [hinf] at this
    simp only [Option.map_some, hoff, hsz] at this
    simpa using this) hzs (by rw [g5]; exact zc_ok i.kd)
  have hbuilt : P.built t (parts.map fun (i, x) => (i, a.eval x)).toList = some out := by
    unfold Program.built
    rw [g1, hu]
    simp only [g4, hpl]
    exact ho
  exact .plain m (exec_v (s := Instr.build t (parts.map fun (i, x) => (i, a.eval x))) (v := .agg out) (by unfold execOp; rw [hop]) (run_build W t _ out hbuilt)) h ⟨out.toList, rfl, hr⟩
theorem mkOr_ok' {o : Option (TypeId × FuncId)} {k : TypeId × FuncId → Prop} {p : Prop} (h : mkOr o k p) : (∃ x, o = some x ∧ k x) ∨ p := by
  cases o with
  | none => exact .inr h
  | some x => exact .inl ⟨x, rfl, h⟩
theorem idxC_ok {j : Int} {F : Nat → Prop} : ∀ {m k : Nat}, idxC j F k m → ∃ i, k ≤ i ∧ i < k + m ∧ j = (i : Int) ∧ F i
  | 0, k, h => h.elim
  | m + 1, k, h => by
    unfold idxC at h
    cases hd : decide (j = (k : Int)) with
    | true =>
      rw [hd] at h
      exact ⟨k, Nat.le_refl _, by omega, of_decide_eq_true hd, h⟩
    | false =>
      rw [hd] at h
      obtain ⟨i, h1, h2, h3, h4⟩ := idxC_ok (m := m) (k := k + 1) h
      exact ⟨i, by omega, by omega, h3, h4⟩
theorem idxArr_ok (hS : StatOK P S) (hg : S.glb = glb) (m : Mt P glb Bk X0 w0 st ρ a W) {ix : Operand} {n : Nat} {F : Nat → Prop} (h : idxArr S st ix n F) : ∃ kk i, a.eval ix = .int kk ((i : Nat) : Int) ∧ i < n ∧ F i := by
  unfold idxArr at h
  split at h
  · rename_i kk z
    obtain ⟨hb, h⟩ := chk_iff.1 h
    simp only [Bool.and_eq_true, decide_eq_true_eq] at hb
    exact ⟨kk, z.toNat, by rw [Int.toNat_of_nonneg hb.1]; rfl, by omega, h⟩
  · obtain ⟨kk, j, ⟨h0, h1, h2⟩, hj⟩ := oneI_ok h (ev_ok hS hg m _ ix)
    obtain ⟨i, _, h3, rfl, h4⟩ := idxC_ok h2
    exact ⟨kk, i, hj, by omega, h4⟩
theorem idxPt_ok (hS : StatOK P S) (hg : S.glb = glb) (m : Mt P glb Bk X0 w0 st ρ a W) {ix : Operand} {n sz : Nat} {c : SC} {k : SC → Prop} {p : Prop} (h : idxPt S st ix n sz c k p) : (∃ l off kk i, c = .ptr l off ∧ a.eval ix = .int kk ((i : Nat) : Int) ∧ i < n ∧ sz = 1 ∧ k (.pt l off n (i : Nat))) ∨ p := by
  unfold idxPt at h
  split at h
  · rename_i l off
    split at h
    · rename_i o ty cs hl
      cases hb : isTmp ix && Nat.beq sz 1 && Nat.ble (off + n) cs.length && (pickD 0 ((cs.drop off).take n)).isSome with
      | false => rw [hb] at h; exact .inr h
      | true =>
        rw [hb] at h
        simp only [Bool.and_eq_true] at hb
        obtain ⟨kk, j, ⟨h0, h1, h2⟩, hj⟩ := oneI_ok (show oneI _ _ from h) (ev_ok hS hg m _ ix)
        refine .inl ⟨l, off, kk, j.toNat, rfl, by rw [Int.toNat_of_nonneg h0]; exact hj, by omega, Nat.eq_of_beq_eq_true hb.1.1.2, by rw [Int.toNat_of_nonneg h0]; exact h2⟩
    · exact .inr h
  · exact .inr h
theorem idxV_ok (hS : StatOK P S) (hg : S.glb = glb) (m : Mt P glb Bk X0 w0 st ρ a W) {ix : Operand} {n : Nat} {kd : Kd} {cs : List SC} {k : SC → Prop} {p : Prop} (h : idxV S st ix n kd cs k p) : (∃ kk i c, a.eval ix = .int kk ((i : Nat) : Int) ∧ i < n ∧ kd.isAgg = false ∧ kd.n = 1 ∧ n ≤ cs.length ∧ pickD (i : Nat) (cs.take n) = some c ∧ k c) ∨ p := by
  unfold idxV at h
  cases hb : isTmp ix && !kd.isAgg && Nat.beq kd.n 1 && Nat.ble n cs.length && (pickD 0 (cs.take n)).isSome with
  | false => rw [hb] at h; exact .inr h
  | true =>
    rw [hb] at h
    simp only [Bool.and_eq_true, Bool.not_eq_true'] at hb
    obtain ⟨kk, j, ⟨h0, h1, h2⟩, hj⟩ := oneI_ok (show oneI _ _ from h) (ev_ok hS hg m _ ix)
    obtain ⟨c, hc, h2⟩ := optK_ok h2
    refine .inl ⟨kk, j.toNat, c, by rw [Int.toNat_of_nonneg h0]; exact hj, by omega, hb.1.1.1.2, Nat.eq_of_beq_eq_true hb.1.1.2, Nat.le_of_ble_eq_true hb.1.2, by rw [Int.toNat_of_nonneg h0]; exact hc, h2⟩
theorem run_indexAt_arr (t e : TypeId) (ad : Addr) (len : Nat) (k : IntKind) (i : Nat) (n : Nat) (ht : P.underlying t = some (.array len e)) (hs : (sizeOf e).run P W = .ok n W) (h1 : i < len) :
    (Instr.indexAt t (.pointer (some ad)) (.int k (i : Int))).run P W = .ok (.pointer (some (ad.add (i * n)))) W := by
  simp [Instr.indexAt, asIntOf, run_underlying ht, hs, Instr.sureAddr]
  intro h2; omega
theorem sem_indexAddr (hS : StatOK P S) (hg : S.glb = glb) (m : Mt P glb Bk X0 w0 st ρ a W) {t : TypeId} {x ix : Operand} (hop : o.op = .indexAddr t x ix)
    (h : mkOr (S.arr t) (fun p => optK (S.ty p.2) fun i => chk (Nat.ble 1 i.kd.n) (oneC (ev S st t x) fun c => idxPt S st ix p.1 i.kd.n c (fun c' => Q (.mk false [c']) []) <| idxArr S st ix p.1 fun k => optK (moveP (k * i.kd.n) c) fun c' => Q (.mk false [c']) [])) <|
      optK (S.sl t) fun e => optK (S.ty e) fun i => oneC (ev S st t x) fun c => oneI (ev S st 0 ix) fun j => idxS st.look i.kd.n c j Q) : OpOut P o a W (Fits P glb Bk X0 w0 st ρ a W Q) := by
  rcases mkOr_ok' h with ⟨p, hp, h⟩ | h
  · obtain ⟨i, hi, h⟩ := optK_ok h
    obtain ⟨_, h⟩ := chk_iff.1 h
    obtain ⟨c, h, hc⟩ := oneC_ok h (ev_ok hS hg m _ x)
    have hu := hS.arr t p hp
    rcases idxPt_ok hS hg m h with ⟨l, off, kk, k, rfl, hk, hlt, hsz, h⟩ | h
    · obtain ⟨b, hρ, he⟩ := hc
      refine .plain m (exec_v (s := Instr.indexAt t (a.eval x) (a.eval ix)) (v := .pointer (some ⟨b, off + k, none⟩)) (by unfold execOp; rw [hop]) ?_) h ⟨_, rfl, ⟨b, hρ, by rw [Int.toNat_natCast]⟩, by omega, by omega⟩
      rw [he, hk]
      have := run_indexAt_arr t p.2 ⟨b, off, none⟩ p.1 kk k _ hu (run_sizeOf hS hi W) hlt
      rw [hsz, Nat.mul_one] at this
      rw [this, plainAdd]
    obtain ⟨kk, k, hk, hlt, h⟩ := idxArr_ok hS hg m h
    obtain ⟨c', hm, h⟩ := optK_ok h
    obtain ⟨ad, he, hr⟩ := hc.ptr_of_cells m hm
    refine .plain m (exec_v (s := Instr.indexAt t (a.eval x) (a.eval ix)) (v := .pointer (some (ad.add (k * i.kd.n)))) (by unfold execOp; rw [hop]) ?_) h ⟨c', rfl, hr⟩
    rw [he, hk]
    exact run_indexAt_arr t p.2 ad p.1 kk k _ hu (run_sizeOf hS hi W) hlt
  · exact sem_indexAddrS hS hg m hop h
theorem ba_get (s : ByteArray) (j : Nat) (h : j < s.size) : s[j]? = some (s.data.getD j 0) := by
  have h' : j < s.data.size := h
  rw [getElem?_pos s j h]
  congr 1
  simp only [Array.getD, h', dif_pos]
  rfl
theorem sem_strIx (hS : StatOK P S) (hg : S.glb = glb) (m : Mt P glb Bk X0 w0 st ρ a W) {t : TypeId} {x ix : Operand} (hop : o.op = .index t x ix) (h : strIx S st t x ix Q) : OpOut P o a W (Fits P glb Bk X0 w0 st ρ a W Q) := by
  obtain ⟨i, hi, h1⟩ := optK_ok h
  obtain ⟨hk, h2⟩ := chk_iff.1 h1
  have hk := of_decide_eq_true (p := i.kd = .str) (by simpa using hk)
  obtain ⟨c, h3, hc⟩ := oneC_ok h2 (ev_ok hS hg m t x)
  split at h3
  · rename_i s
    obtain ⟨kk, j, h4, hj⟩ := oneI_ok h3 (ev_ok hS hg m 0 ix)
    obtain ⟨h5, h6, hQ⟩ := h4
    obtain ⟨v', hv', _, he⟩ := hc
    rw [List.cons.injEq] at hv'
    rw [← hv'.1] at he
    have hu : P.underlying t = some .string := hS.str t i.bytes (by rw [hi, ← hk])
    have hlt : j.toNat < (show ByteArray from s).size := by omega
    refine .plain m (exec_v (s := Instr.index t (a.eval x) (a.eval ix)) (v := .int .u8 (((show ByteArray from s).data.getD j.toNat 0).toNat : Int)) (by unfold execOp; rw [hop]) ?_) hQ (rep_int _ _)
    have hget := ba_get (show ByteArray from s) j.toNat hlt
    simp [Instr.index, asIntOf, hj, run_underlying hu, he, h5, hget]
  · exact h3.elim
theorem sem_index (hS : StatOK P S) (hg : S.glb = glb) (m : Mt P glb Bk X0 w0 st ρ a W) {t : TypeId} {x ix : Operand} (hop : o.op = .index t x ix)
    (h : optK (S.arr t) fun p => optK (S.ty p.2) fun i => (match ev S st t x with
      | .mk true cs => idxV S st ix p.1 i.kd cs (fun c => Q (.mk false [c]) []) <| idxArr S st ix p.1 fun k => chk (Nat.ble (k * i.kd.n + i.kd.n) cs.length) (Q (.mk i.kd.isAgg ((cs.drop (k * i.kd.n)).take i.kd.n)) [])
      | _ => False)) : OpOut P o a W (Fits P glb Bk X0 w0 st ρ a W Q) := by
  obtain ⟨p, hp, h⟩ := optK_ok h
  obtain ⟨i, hi, h⟩ := optK_ok h
  have hev := ev_ok hS hg m t x
  have hu := hS.arr t p hp
  split at h
  · rename_i cs hcs
    rw [hcs] at hev
    obtain ⟨us, he, hr⟩ := hev
    rcases idxV_ok hS hg m h with ⟨kk, k, c, hk, hlt, hagg, hsz, hle, hpk, h⟩ | h
    · have hagg' := (hS.ty _ i hi).2.2 W
      rw [hagg] at hagg'
      have hszr := run_sizeOf hS hi W
      rw [hsz] at hszr
      obtain ⟨w, hw, hrc⟩ := pickD_ok hpk (hr.take p.1) (by omega) (by rw [List.length_take]; omega)
      rw [Int.toNat_natCast, List.getElem?_take, if_pos hlt] at hw
      have hlt' : (k : Int) < (p.1 : Int) := by omega
      refine .plain m (exec_v (s := Instr.index t (a.eval x) (a.eval ix)) (v := w) (by unfold execOp; rw [hop]) ?_) h ⟨_, rfl, hrc⟩
      simp [Instr.index, asIntOf, hk, run_underlying hu, he, part, hagg', hszr, hw]
      intro h2; omega
    obtain ⟨kk, k, hk, hlt, h⟩ := idxArr_ok hS hg m h
    obtain ⟨hn, h⟩ := chk_iff.1 h
    have hn := Nat.le_of_ble_eq_true hn
    have hlen := hr.length
    have hsz := run_sizeOf hS hi W
    obtain ⟨harg, _, hagg⟩ := hS.ty _ i hi
    have hagg := hagg W
    have hr' := (hr.drop (k * i.kd.n)).take i.kd.n
    have hlt' : (k : Int) < (p.1 : Int) := by omega
    cases hb : i.kd.isAgg with
    | true =>
      rw [hb] at h hagg
      have hex : us.toArray.extract (k * i.kd.n) (k * i.kd.n + i.kd.n) = ((us.drop (k * i.kd.n)).take i.kd.n).toArray := by
        apply Array.ext'
        simp
      refine .plain m (exec_v (s := Instr.index t (a.eval x) (a.eval ix)) (v := .agg ((us.drop (k * i.kd.n)).take i.kd.n).toArray) (by unfold execOp; rw [hop]) ?_) h ⟨_, rfl, hr'⟩
      simp [Instr.index, asIntOf, hk, run_underlying hu, he, part, hagg, hsz, hex]
      intro h2; omega
    | false =>
      rw [hb] at h hagg
      have h1 := kd_n_one harg hb
      rw [h1] at h hn hr' hsz
      have hlt2 : k * 1 < us.length := by omega
      have hus : us[k * 1]? = some us[k * 1] := List.getElem?_eq_getElem hlt2
      have hdt : (us.drop (k * 1)).take 1 = [us[k * 1]] := by
        rw [List.drop_eq_getElem_cons hlt2]; rfl
      have hlt3 : k * 1 < cs.length := by omega
      have hdc : (cs.drop (k * 1)).take 1 = [cs[k * 1]] := by
        rw [List.drop_eq_getElem_cons hlt3]; rfl
      rw [hdt, hdc] at hr'
      rw [hdc] at h
      obtain ⟨v0, vs0, hv0, hrc, _⟩ := hr'
      cases hv0
      refine .plain m (exec_v (s := Instr.index t (a.eval x) (a.eval ix)) (v := us[k * 1]) (by unfold execOp; rw [hop]) ?_) h ⟨_, rfl, hrc⟩
      have hus' : us[k]? = some us[k * 1] := by rw [← hus, Nat.mul_one]
      simp [Instr.index, asIntOf, hk, run_underlying hu, he, part, hagg, hsz, hus']
      intro h2; omega
  · exact h.elim
theorem partsA_ok (hS : StatOK P S) (hg : S.glb = glb) (m : Mt P glb Bk X0 w0 st ρ a W) (e : TypeId) (sz n : Nat) : ∀ (parts : List (Nat × Operand)) (k : List (Nat × List SC) → Prop), partsA S st e sz n parts k →
    ∃ ps : List (Nat × List SC), k ps ∧ ps.length = parts.length ∧ ∀ (j : Nat) p q, parts[j]? = some p → ps[j]? = some q →
      some (p.1 * sz, sz) = some (q.1, q.2.length) ∧ q.1 + q.2.length ≤ n ∧ RepCs P ρ (Xs st ρ X0) W q.2 (a.eval p.2).cells.toList
  | [], k, h => ⟨[], h, rfl, fun j p q hp => by simp at hp⟩
  | (i, x) :: r, k, h => by
    simp only [partsA] at h
    obtain ⟨cs, h, hcs⟩ := cellsOf_ok h (ev_ok hS hg m e x)
    obtain ⟨hb, h⟩ := chk_iff.1 h
    simp only [Bool.and_eq_true] at hb
    obtain ⟨ps, hk, hl, hget⟩ := partsA_ok hS hg m e sz n r _ h
    refine ⟨_, hk, by simp [hl], fun j p q hp hq => ?_⟩
    cases j with
    | zero =>
      simp only [List.getElem?_cons_zero, Option.some.injEq] at hp hq
      subst hp; subst hq
      exact ⟨by rw [Nat.eq_of_beq_eq_true hb.1], Nat.le_of_ble_eq_true hb.2, hcs⟩
    | succ j => exact hget j p q (by simpa using hp) (by simpa using hq)
theorem sem_build (hS : StatOK P S) (hg : S.glb = glb) (m : Mt P glb Bk X0 w0 st ρ a W) {t : TypeId} {parts : Array (Nat × Operand)} (hop : o.op = .build t parts)
    (h : optK (S.ty t) fun i => mkOr (S.arr t) (fun p => optK (S.ty p.2) fun q => partsA S st p.2 q.kd.n i.kd.n parts.toList fun ps => chk i.kd.isAgg (Q (.mk true (fldCells ps i.kd.zc)) [])) <| partsS S st t i.kd.n parts.toList fun ps => chk (i.kd.isAgg && (S.fld t 0).isSome) (Q (.mk true (fldCells ps i.kd.zc)) [])) : OpOut P o a W (Fits P glb Bk X0 w0 st ρ a W Q) := by
  obtain ⟨i, hi, h⟩ := optK_ok h
  rcases mkOr_ok' h with ⟨p, hp, h⟩ | h
  · obtain ⟨q, hq, h⟩ := optK_ok h
    obtain ⟨ps, h, hl, hget⟩ := partsA_ok hS hg m p.2 _ _ _ _ h
    obtain ⟨hb, h⟩ := chk_iff.1 h
    have hu := hS.arr t p hp
    obtain ⟨harg, ⟨inf, z, g1, g2, _, g4, g5⟩, hagg⟩ := hS.ty t i hi
    obtain ⟨_, ⟨inf2, z2, k1, k2, _⟩, _⟩ := hS.ty p.2 q hq
    have hzs : z.cells.size = i.kd.n := by rw [← Array.length_toList, g5, zv_length]
    obtain ⟨out, ho, hr⟩ := fill_ok (P := P) (ρ := ρ) (W := W) (X := Xs st ρ X0) (fun i => some (i * q.kd.n, q.kd.n)) i.kd.n (parts.map fun (i, x) => (i, a.eval x)).toList ps i.kd.zc z.cells (by simp [hl]) (fun j p' q' hp' hq' => by
      simp only [Array.toList_map, List.getElem?_map, Option.map_eq_some_iff] at hp'
      obtain ⟨p0, hp0, rfl⟩ := hp'
      exact hget j p0 q' hp0 hq') hzs (by rw [g5]; exact zc_ok i.kd)
    have hbuilt : P.built t (parts.map fun (i, x) => (i, a.eval x)).toList = some out := by
      unfold Program.built
      rw [g1, hu]
      simp only [g4, k1, k2]
      simpa using ho
    exact .plain m (exec_v (s := Instr.build t (parts.map fun (i, x) => (i, a.eval x))) (v := .agg out) (by unfold execOp; rw [hop]) (run_build W t _ out hbuilt)) h ⟨out.toList, rfl, hr⟩
  · exact sem_buildS hS hg m hop (by rw [hi]; exact h)
end
end Go.GX
set_option linter.unusedVariables false
namespace Go.GX
variable [Inhabited BaseD]
open Go.RowKit Go.Shelf Go.Proofs

def Lab.put (ρ : Lab) (l : Nat) (v : Value) : Lab := fun k => cond (Nat.beq k l) (some v) (ρ k)

theorem Lab.put_same (ρ : Lab) (l : Nat) (v : Value) : ρ.put l v l = some v := by simp [Lab.put]
theorem beq_ne {a b : Nat} (h : a ≠ b) : Nat.beq a b = false := by
  cases hq : Nat.beq a b with
  | false => rfl
  | true => exact absurd (Nat.eq_of_beq_eq_true hq) h
theorem Lab.put_other (ρ : Lab) {l k : Nat} (v : Value) (h : k ≠ l) : ρ.put l v k = ρ k := by simp [Lab.put, beq_ne h]

section
variable {P : Program} {glb : Nat → Option GV} {Bk X0 : Nat → Prop} {w0 : World} {st : St} {ρ : Lab} {a : Act} {W W' : World} {S : Stat} {dr : Bool} {lab : Nat} {o : Oper} {Q : Eff}

theorem updf_same {α : Type} (f : Nat → α) (d : Nat) (v : α) : updf f d v d = v := by simp [updf]
theorem updf_other {α : Type} (f : Nat → α) {d k : Nat} (v : α) (h : k ≠ d) : updf f d v k = f k := by simp [updf, beq_ne h]

theorem Mt.le_put (m : Mt P glb Bk X0 w0 st ρ a W) (hlab : memL lab st.dom = false) (v : Value) : ρ.le (ρ.put lab v) := by
  intro l u hu
  by_cases h : l = lab
  · subst h
    rw [m.dom l u hu] at hlab
    cases hlab
  · rw [Lab.put_other ρ v h]; exact hu

theorem Mt.nolab (m : Mt P glb Bk X0 w0 st ρ a W) (hlab : memL lab st.dom = false) (he : HE) (s : Nat) : st.hp lab ≠ some (he, s) := by
  intro h
  obtain ⟨v, hv, _⟩ := m.hps lab he s h
  rw [m.dom lab v hv] at hlab
  cases hlab

theorem memL_cons {l k : Nat} {r : List Nat} : memL l (k :: r) = (Nat.beq l k || memL l r) := by
  simp only [memL]
  cases Nat.beq l k <;> rfl

theorem freshL_spec {lab : Nat} : ∀ {d : List Nat}, freshL lab d = true → memL lab d = false ∧ ∀ c, c < 10000000000 → memL (dl lab c) d = false
  | [], _ => ⟨rfl, fun _ _ => rfl⟩
  | l :: r, h => by
    simp only [freshL] at h
    cases hb : (Nat.beq l lab || (Nat.ble ((lab + 1) * 10000000000) l && Nat.blt l ((lab + 2) * 10000000000))) with
    | true => rw [hb] at h; cases h
    | false =>
      rw [hb, cond_false] at h
      rw [Bool.or_eq_false_iff] at hb
      obtain ⟨h1, h2⟩ := freshL_spec h
      have hne : lab ≠ l := by intro hh; subst hh; simp at hb
      refine ⟨by rw [memL_cons, h1, beq_ne hne]; rfl, fun c hc => ?_⟩
      have hne2 : dl lab c ≠ l := by
        intro hh
        subst hh
        have hb2 := hb.2
        have e1 : Nat.ble ((lab + 1) * 10000000000) (dl lab c) = true := Nat.ble_eq_true_of_le (by unfold dl; omega)
        have e2 : Nat.blt (dl lab c) ((lab + 2) * 10000000000) = true := Nat.ble_eq_true_of_le (by unfold dl; omega)
        rw [e1, e2] at hb2; cases hb2
      rw [memL_cons, h2 c hc, beq_ne hne2]; rfl

theorem freshL_mono {lab : Nat} {d d' : List Nat} (h : ∀ l, memL l d' = true → memL l d = true ∨ ∃ e, freshL lab e = true ∧ memL l e = true) (hd : freshL lab d = true) : freshL lab d' = true := by
  have bad : ∀ {d : List Nat}, freshL lab d = true ↔ ∀ l, memL l d = true → (Nat.beq l lab || (Nat.ble ((lab + 1) * 10000000000) l && Nat.blt l ((lab + 2) * 10000000000))) = false := by
    intro d
    induction d with
    | nil => simp [freshL, memL]
    | cons k r ih =>
      simp only [freshL]
      constructor
      · intro h l hl
        cases hb : (Nat.beq k lab || (Nat.ble ((lab + 1) * 10000000000) k && Nat.blt k ((lab + 2) * 10000000000))) with
        | true => rw [hb] at h; cases h
        | false =>
          rw [hb, cond_false] at h
          rw [memL_cons, Bool.or_eq_true] at hl
          rcases hl with hl | hl
          · have := Nat.eq_of_beq_eq_true hl; subst this; exact hb
          · exact ih.1 h l hl
      · intro h
        rw [h k (by rw [memL_cons]; simp), cond_false]
        exact ih.2 fun l hl => h l (by rw [memL_cons, hl, Bool.or_true])
  rw [bad] at hd ⊢
  intro l hl
  rcases h l hl with h | ⟨e, he, h⟩
  · exact hd l h
  · exact bad.1 he l h

theorem freshL_vlab {lab : Nat} {d : List Nat} (h : freshL lab d = true) : memL (vlab lab) d = false := (freshL_spec h).2 0 (by omega)

def lastU : List (Nat × Option HE) → Nat → Option (Option HE)
  | [], _ => none
  | (l, h) :: r, k => match lastU r k with
    | some x => some x
    | none => cond (Nat.beq k l) (some h) none

theorem lastU_none {l : Nat} : ∀ {u : List (Nat × Option HE)}, memL l (u.map (·.1)) = false → lastU u l = none
  | [], _ => rfl
  | (k, h) :: r, hm => by
    simp only [List.map_cons, memL_cons, Bool.or_eq_false_iff] at hm
    simp only [lastU, lastU_none hm.2, hm.1, cond_false]

theorem lastU_some {l : Nat} : ∀ {u : List (Nat × Option HE)}, memL l (u.map (·.1)) = true → ∃ x, lastU u l = some x
  | (k, h) :: r, hm => by
    simp only [List.map_cons, memL_cons, Bool.or_eq_true] at hm
    simp only [lastU]
    cases hr : lastU r l with
    | some x => exact ⟨x, rfl⟩
    | none =>
      rcases hm with hm | hm
      · exact ⟨h, by rw [hm]; rfl⟩
      · obtain ⟨x, hx⟩ := lastU_some hm
        rw [hr] at hx; cases hx

theorem upds_look : ∀ (u : List (Nat × Option HE)) (st : St) (l : Nat), (st.upds u).look l = (match lastU u l with
    | some x => x
    | none => st.look l)
  | [], st, l => rfl
  | (k, h) :: r, st, l => by
    have := upds_look r { st with hp := updf st.hp k (h.map fun x => (x, st.cnt + 1)), cnt := st.cnt + 1, dom := k :: st.dom } l
    simp only [St.upds, this, lastU]
    cases lastU r l with
    | some x => rfl
    | none =>
      by_cases hk : l = k
      · subst hk
        simp only [St.look, updf_same, Nat.beq_refl, cond_true]
        cases h <;> rfl
      · simp only [St.look, updf_other _ _ hk, beq_ne hk, cond_false]

theorem upds_stamp : ∀ (u : List (Nat × Option HE)) (st : St), (∀ l he s, st.hp l = some (he, s) → s ≤ st.cnt) → ∀ l he s, (st.upds u).hp l = some (he, s) → s ≤ (st.upds u).cnt
  | [], st, h => h
  | (k, h0) :: r, st, h => by
    refine upds_stamp r _ (fun l he s hl => ?_)
    show s ≤ st.cnt + 1
    by_cases hk : l = k
    · subst hk
      simp only [updf_same] at hl
      cases h0 with
      | none => cases hl
      | some x => cases hl; exact Nat.le_refl _
    · simp only [updf_other _ _ hk] at hl
      have := h l he s hl
      omega

theorem upds_tm : ∀ (u : List (Nat × Option HE)) (st : St), (st.upds u).tm = st.tm
  | [], st => rfl
  | (k, h) :: r, st => upds_tm r _
theorem upds_n : ∀ (u : List (Nat × Option HE)) (st : St), (st.upds u).n = st.n
  | [], st => rfl
  | (k, h) :: r, st => upds_n r _

theorem upds_dom {l : Nat} : ∀ (u : List (Nat × Option HE)) (st : St), memL l (st.upds u).dom = (memL l (u.map (·.1)) || memL l st.dom)
  | [], st => by simp [memL, St.upds]
  | (k, h) :: r, st => by
    simp only [St.upds, upds_dom r, List.map_cons, memL_cons]
    cases Nat.beq l k <;> cases memL l (r.map (·.1)) <;> rfl

theorem upds_hp_other : ∀ (u : List (Nat × Option HE)) (st : St) {l : Nat}, memL l (u.map (·.1)) = false → (st.upds u).hp l = st.hp l
  | [], st, l, _ => rfl
  | (k, h) :: r, st, l, hm => by
    simp only [List.map_cons, memL_cons, Bool.or_eq_false_iff] at hm
    have hne : l ≠ k := by intro hh; subst hh; simp at hm
    simp only [St.upds]
    rw [upds_hp_other r _ hm.2]
    exact updf_other _ _ hne

theorem Mt.multiM {ρ' : Lab} (m : Mt P glb Bk X0 w0 st ρ a W) (u : List (Nat × Option HE)) (hnl : ∀ l he s, memL l (u.map (·.1)) = true → st.hp l = some (he, s) → he.isLn = false) (hρ : ρ.le ρ') (hρd : ∀ l v, ρ' l = some v → ρ l = some v ∨ memL l (u.map (·.1)) = true)
    (hos : W'.os = W.os) (htape : W'.tape = W.tape) (hout : W'.output = W.output) (hsz : W.heap.size ≤ W'.heap.size)
    (hkeep : ∀ k, k < W.heap.size → (∀ l he s v, memL l (u.map (·.1)) = true → st.hp l = some (he, s) → ρ l = some v → ¬ OwnB ρ he v k) → NoMap W k → W'.heap[k]? = W.heap[k]?)
    (hmem : ∀ mm xs, PackAt (fun _ => False) W mm xs → GoodAt W mm xs → GoodAt W' mm xs)
    (hblk : ∀ l he v k, lastU u l = some (some he) → ρ' l = some v → OwnB ρ' he v k → k < W'.heap.size ∧ (W.heap.size ≤ k ∨ ∃ l' he' s' v', memL l' (u.map (·.1)) = true ∧ st.hp l' = some (he', s') ∧ ρ l' = some v' ∧ OwnB ρ he' v' k))
    (hnew : Evo (Xs st ρ X0) W (Xs (st.upds u) ρ' X0) W' → ∀ l he, lastU u l = some (some he) → ∃ v, ρ' l = some v ∧ HEok P 0 ρ' (Xs (st.upds u) ρ' X0) W' he v)
    (hdis : ∀ l l' he he' v v' k, lastU u l = some (some he) → lastU u l' = some (some he') → ρ' l = some v → ρ' l' = some v' → OwnB ρ' he v k → OwnB ρ' he' v' k → l = l') :
    Mt P glb Bk X0 w0 (st.upds u) ρ' a W' ∧ Evo (Xs st ρ X0) W (Xs (st.upds u) ρ' X0) W' := by
  have other : ∀ l, ¬ (memL l (u.map (·.1)) = true) → (st.upds u).hp l = st.hp l := fun l hl => upds_hp_other u st (by simpa using hl)
  have inU : ∀ {l he s}, memL l (u.map (·.1)) = true → (st.upds u).hp l = some (he, s) → lastU u l = some (some he) := by
    intro l he s hl h
    obtain ⟨x, hx⟩ := lastU_some hl
    have := upds_look u st l
    rw [hx] at this
    simp only [St.look, h, Option.map_some] at this
    rw [hx, ← this]
  have hb : ∀ l he s v k, memL l (u.map (·.1)) = true → (st.upds u).hp l = some (he, s) → ρ' l = some v → OwnB ρ' he v k → _ := fun l he s v k hl h h2 h3 => hblk l he v k (inU hl h) h2 h3
  refine ⟨m.genM (fun l => memL l (u.map (·.1)) = true) hnl (upds_tm u st) (upds_n u st) other hρ (fun l v h => ?_) (upds_stamp u st m.stamp) hos htape hout hsz hkeep hmem hb (fun e l he s hl h => hnew e l he (inU hl h)) (fun l l' he he' s s' v v' k hl hl' h h' => hdis l l' he he' v v' k (inU hl h) (inU hl' h')), m.evoGenM (fun l => memL l (u.map (·.1)) = true) other hρ hsz hkeep hmem hb⟩
  rw [upds_dom]
  rcases hρd l v h with h | h
  · rw [m.dom l v h]; simp
  · rw [h]; rfl

theorem Mt.multi {ρ' : Lab} (m : Mt P glb Bk X0 w0 st ρ a W) (u : List (Nat × Option HE)) (hnl : ∀ l he s, memL l (u.map (·.1)) = true → st.hp l = some (he, s) → he.isLn = false) (hρ : ρ.le ρ') (hρd : ∀ l v, ρ' l = some v → ρ l = some v ∨ memL l (u.map (·.1)) = true)
    (hos : W'.os = W.os) (htape : W'.tape = W.tape) (hout : W'.output = W.output) (hsz : W.heap.size ≤ W'.heap.size)
    (hkeep : ∀ k, k < W.heap.size → (∀ l he s v, memL l (u.map (·.1)) = true → st.hp l = some (he, s) → ρ l = some v → ¬ OwnB ρ he v k) → W'.heap[k]? = W.heap[k]?)
    (hblk : ∀ l he v k, lastU u l = some (some he) → ρ' l = some v → OwnB ρ' he v k → k < W'.heap.size ∧ (W.heap.size ≤ k ∨ ∃ l' he' s' v', memL l' (u.map (·.1)) = true ∧ st.hp l' = some (he', s') ∧ ρ l' = some v' ∧ OwnB ρ he' v' k))
    (hnew : Evo (Xs st ρ X0) W (Xs (st.upds u) ρ' X0) W' → ∀ l he, lastU u l = some (some he) → ∃ v, ρ' l = some v ∧ HEok P 0 ρ' (Xs (st.upds u) ρ' X0) W' he v)
    (hdis : ∀ l l' he he' v v' k, lastU u l = some (some he) → lastU u l' = some (some he') → ρ' l = some v → ρ' l' = some v' → OwnB ρ' he v k → OwnB ρ' he' v' k → l = l') :
    Mt P glb Bk X0 w0 (st.upds u) ρ' a W' ∧ Evo (Xs st ρ X0) W (Xs (st.upds u) ρ' X0) W' :=
  m.multiM u hnl hρ hρd hos htape hout hsz (fun k h1 h2 _ => hkeep k h1 h2) (m.memKeep _ hkeep) hblk hnew hdis

theorem Mt.adopt {ρ' : Lab} (m : Mt P glb Bk X0 w0 st ρ a W) (u : List (Nat × Option HE)) (L : Nat) (he' : HE) (v' : Value) (hu : ∀ l he, lastU u l = some (some he) → l = L ∧ he = he')
    (hnl : ∀ l he s, memL l (u.map (·.1)) = true → st.hp l = some (he, s) → he.isLn = false) (hρ : ρ.le ρ') (hρL : ρ' L = some v') (hρd : ∀ l v, ρ' l = some v → ρ l = some v ∨ memL l (u.map (·.1)) = true)
    (hos : W'.os = W.os) (htape : W'.tape = W.tape) (hout : W'.output = W.output) (hsz : W.heap.size ≤ W'.heap.size)
    (hkeep : ∀ k, k < W.heap.size → (∀ l he s v, memL l (u.map (·.1)) = true → st.hp l = some (he, s) → ρ l = some v → ¬ OwnB ρ he v k) → W'.heap[k]? = W.heap[k]?)
    (hk : ∀ k, OwnB ρ' he' v' k → k < W'.heap.size ∧ (W.heap.size ≤ k ∨ ∃ l he s v, memL l (u.map (·.1)) = true ∧ st.hp l = some (he, s) ∧ ρ l = some v ∧ OwnB ρ he v k))
    (hok : Evo (Xs st ρ X0) W (Xs (st.upds u) ρ' X0) W' → HEok P 0 ρ' (Xs (st.upds u) ρ' X0) W' he' v') : Mt P glb Bk X0 w0 (st.upds u) ρ' a W' ∧ Evo (Xs st ρ X0) W (Xs (st.upds u) ρ' X0) W' := by
  refine m.multi u hnl hρ hρd hos htape hout hsz hkeep ?_ ?_ ?_
  · intro l he v k h h2 h3
    obtain ⟨rfl, rfl⟩ := hu l he h
    rw [hρL] at h2; cases h2
    exact hk k h3
  · intro e l he h
    obtain ⟨rfl, rfl⟩ := hu l he h
    exact ⟨v', hρL, hok e⟩
  · intro l l' he he' v v' k h h' _ _ _ _
    rw [(hu l he h).1, (hu l' he' h').1]

theorem memL_append {l : Nat} : ∀ (a b : List Nat), memL l (a ++ b) = (memL l a || memL l b)
  | [], b => by simp [memL]
  | k :: r, b => by rw [List.cons_append, memL_cons, memL_cons, memL_append r b, Bool.or_assoc]

theorem memL_iff {l : Nat} : ∀ {ls : List Nat}, memL l ls = true ↔ l ∈ ls
  | [] => by simp [memL]
  | k :: r => by
    rw [memL_cons, Bool.or_eq_true, memL_iff, List.mem_cons]
    exact or_congr ⟨fun h => Nat.eq_of_beq_eq_true h, fun h => by subst h; simp⟩ Iff.rfl

theorem Mt.new (m : Mt P glb Bk X0 w0 st ρ a W) (hlab : memL lab st.dom = false) (he : HE) (v : Value) (hb : Below W.heap.size W W')
    (hk : ∀ k, OwnB (ρ.put lab v) he v k → W.heap.size ≤ k ∧ k < W'.heap.size)
    (hok : Evo (Xs st ρ X0) W (Xs (st.upds [(lab, some he)]) (ρ.put lab v) X0) W' → (ρ.put lab v) lab = some v → HEok P 0 (ρ.put lab v) (Xs (st.upds [(lab, some he)]) (ρ.put lab v) X0) W' he v) :
    Mt P glb Bk X0 w0 (st.upds [(lab, some he)]) (ρ.put lab v) a W' ∧ Evo (Xs st ρ X0) W (Xs (st.upds [(lab, some he)]) (ρ.put lab v) X0) W' := by
  have hle := m.le_put hlab v
  have hhp : (st.upds [(lab, some he)]).hp = updf st.hp lab (some (he, st.cnt + 1)) := rfl
  have hother : ∀ l, ¬ (l = lab) → (st.upds [(lab, some he)]).hp l = st.hp l := fun l hl => by rw [hhp, updf_other _ _ hl]
  have hself : ∀ he' s, (st.upds [(lab, some he)]).hp lab = some (he', s) → he' = he ∧ s = st.cnt + 1 := by
    intro he' s h
    rw [hhp, updf_same] at h
    cases h
    exact ⟨rfl, rfl⟩
  have hkeep : ∀ k, k < W.heap.size → (∀ l he s v, l = lab → st.hp l = some (he, s) → ρ l = some v → ¬ OwnB ρ he v k) → W'.heap[k]? = W.heap[k]? := fun k hk _ => hb.block k hk
  have hblk : ∀ l he' s u k, l = lab → (st.upds [(lab, some he)]).hp l = some (he', s) → (ρ.put lab v) l = some u → OwnB (ρ.put lab v) he' u k → k < W'.heap.size ∧ (W.heap.size ≤ k ∨ ∃ l' he2 s' v', l' = lab ∧ st.hp l' = some (he2, s') ∧ ρ l' = some v' ∧ OwnB ρ he2 v' k) := by
    rintro l he' s u k rfl h1 h2 h3
    obtain ⟨rfl, _⟩ := hself he' s h1
    rw [Lab.put_same] at h2
    cases h2
    exact ⟨(hk k h3).2, .inl (hk k h3).1⟩
  have e := m.evoGen (st' := st.upds [(lab, some he)]) (ρ' := ρ.put lab v) (· = lab) hother hle hb.size hkeep hblk
  refine ⟨m.gen (· = lab) (fun l he s hl h => by subst hl; exact absurd h (m.nolab hlab he s)) rfl rfl hother hle ?_ ?_ hb.os hb.tape hb.output hb.size hkeep hblk ?_ ?_, e⟩
  · intro l u hu
    show memL l (lab :: st.dom) = true
    rw [memL_cons]
    by_cases h : l = lab
    · subst h; simp
    · rw [Lab.put_other ρ v h] at hu
      rw [m.dom l u hu]; simp
  · intro l he' s h
    show s ≤ st.cnt + 1
    by_cases hl : l = lab
    · subst hl
      rw [(hself he' s h).2]; exact Nat.le_refl _
    · rw [hother l hl] at h
      have := m.stamp l he' s h
      omega
  · rintro _ l he' s rfl h
    obtain ⟨rfl, _⟩ := hself he' s h
    exact ⟨v, Lab.put_same ρ l v, hok e (Lab.put_same ρ l v)⟩
  · rintro l l' _ _ _ _ _ _ _ rfl rfl _ _ _ _ _ _
    rfl

theorem Fits.new (m : Mt P glb Bk X0 w0 st ρ a W) (hlab : memL lab st.dom = false) (he : HE) (v : Value) {sv : SV} {u : Value} (hb : Below W.heap.size W W')
    (hk : ∀ k, OwnB (ρ.put lab v) he v k → W.heap.size ≤ k ∧ k < W'.heap.size)
    (hok : Evo (Xs st ρ X0) W (Xs (st.upds [(lab, some he)]) (ρ.put lab v) X0) W' → (ρ.put lab v) lab = some v → HEok P 0 (ρ.put lab v) (Xs (st.upds [(lab, some he)]) (ρ.put lab v) X0) W' he v)
    (hQ : Q sv [(lab, some he)]) (hu : ∀ X, (ρ.put lab v) lab = some v → RepV P (ρ.put lab v) X W' sv u) : Fits P glb Bk X0 w0 st ρ a W Q u W' := by
  obtain ⟨m', e⟩ := m.new hlab he v hb hk hok
  exact ⟨sv, _, ρ.put lab v, hQ, m.le_put hlab v, m', hu _ (Lab.put_same ρ lab v), hb.size⟩

theorem below_alloc (W : World) (ob : Obj) : Below W.heap.size W (W.alloc ob) :=
  ⟨rfl, rfl, rfl, by simp, fun k hk => (World.grownBy_alloc W ob none).block k hk (by simp)⟩

theorem sem_alloc (hS : StatOK P S) (m : Mt P glb Bk X0 w0 st ρ a W) (hlab : memL lab st.dom = false) {e : TypeId} (hop : o.op = .alloc e)
    (h : optK (S.ty e) fun i => Q (.mk false [.ptr lab 0]) [(lab, some (.box true e i.kd.zc))]) : OpOut P o a W (Fits P glb Bk X0 w0 st ρ a W Q) := by
  obtain ⟨i, hi, h⟩ := optK_ok h
  obtain ⟨harg, ⟨inf, z, g1, g2, _, g4, g5⟩, hagg⟩ := hS.ty e i hi
  refine .inl ⟨.pointer (some ⟨W.heap.size, 0, none⟩), W.alloc (.cells z.cells e), exec_v (s := Instr.alloc e true (.tuple #[])) (by unfold execOp; rw [hop]) ?_, ?_⟩
  · simp [Instr.alloc, zeroValue, typeInfo, g1, g4, newVar, newRow]
  · refine Fits.new m hlab _ (.pointer (some ⟨W.heap.size, 0, none⟩)) (below_alloc W _) ?_ ?_ h (fun X hρ => ⟨_, rfl, _, hρ, rfl⟩)
    · intro k hk
      rw [ownB_box] at hk
      simp only [ownBlk, Option.some.injEq] at hk
      subst hk
      simp
    · intro _ _
      refine ⟨W.heap.size, z.cells, rfl, Go.heap_alloc_new W _, ?_, fun h => (by cases h), fun _ => Nat.zero_le _⟩
      rw [g5]
      exact zc_ok i.kd

theorem sem_box (hS : StatOK P S) (hg : S.glb = glb) (m : Mt P glb Bk X0 w0 st ρ a W) (hlab : memL lab st.dom = false) {e : TypeId} {x : Operand} (hop : o.op = .box e x)
    (h : optK (S.ty e) fun i => cellsOf (ev S st e x) fun cs => chk (Nat.beq cs.length i.kd.n) (Q (.mk false [.ptr lab 0]) [(lab, some (.box true e cs))])) : OpOut P o a W (Fits P glb Bk X0 w0 st ρ a W Q) := by
  obtain ⟨i, hi, h⟩ := optK_ok h
  obtain ⟨cs, h, hcs⟩ := cellsOf_ok h (ev_ok hS hg m e x)
  obtain ⟨hn, h⟩ := chk_iff.1 h
  refine .inl ⟨.pointer (some ⟨W.heap.size, 0, none⟩), W.alloc (.cells (a.eval x).cells e), exec_v (s := Instr.box e (a.eval x)) (by unfold execOp; rw [hop]) ?_, ?_⟩
  · simp [Instr.box, newVar, newRow]
  · refine Fits.new m hlab _ (.pointer (some ⟨W.heap.size, 0, none⟩)) (below_alloc W _) ?_ ?_ h (fun X hρ => ⟨_, rfl, _, hρ, rfl⟩)
    · intro k hk
      rw [ownB_box] at hk
      simp only [ownBlk, Option.some.injEq] at hk
      subst hk
      simp
    · intro e _
      exact ⟨W.heap.size, (a.eval x).cells, rfl, Go.heap_alloc_new W _, hcs.mono (m.le_put hlab _) e, fun h => (by cases h), fun _ => Nat.zero_le _⟩

theorem frB_ln {h : HE} (hf : h.frB = true) : h.isLn = false := by
  cases h <;> first | rfl | cases hf

theorem frz_noOwn {h : HE} (hf : h.frB = true) : ∀ (ρ : Lab) u k, ¬ OwnB ρ (frzHE h) u k := by
  intro ρ u k
  cases h with
  | box o ty cs =>
    rw [show frzHE (.box o ty cs) = .box false ty cs from rfl, ownB_box]
    cases u <;> simp [ownBlk]
  | row nn e K xs =>
    rw [show frzHE (.row nn e K xs) = .dat nn e K xs from rfl, ownB_dat]
    cases u <;> simp [ownBlk]
  | dat nn e K xs =>
    rw [show frzHE (.dat nn e K xs) = .dat nn e K xs from rfl, ownB_dat]
    cases u <;> simp [ownBlk]
  | ln e K xs => cases hf
  | mp q K es => cases hf
  | mat nn e ag e1 K1 xs hole vl =>
    cases hole with
    | some h => cases hf
    | none =>
      rw [show frzHE (.mat nn e ag e1 K1 xs none vl) = .dat nn e (elK ag e1 K1) (xs.map (elX ag e1 K1)) from rfl, ownB_dat]
      cases u <;> simp [ownBlk]

theorem Mt.frz1 (m : Mt P glb Bk X0 w0 st ρ a W) {l : Nat} {h : HE} {s : Nat} (hl : st.hp l = some (h, s)) (hln : h.frB = true) : Mt P glb Bk X0 w0 (st.upds [(l, some (frzHE h))]) ρ a W := by
  obtain ⟨v, hv, hok⟩ := m.hps l h s hl
  have hnb := frz_noOwn hln
  have hhp : (st.upds [(l, some (frzHE h))]).hp = updf st.hp l (some (frzHE h, st.cnt + 1)) := rfl
  have hother : ∀ k, ¬ (k = l) → (st.upds [(l, some (frzHE h))]).hp k = st.hp k := fun k hk => by rw [hhp, updf_other _ _ hk]
  have hself : ∀ he' s, (st.upds [(l, some (frzHE h))]).hp l = some (he', s) → he' = frzHE h ∧ s = st.cnt + 1 := by
    intro he' s h
    rw [hhp, updf_same] at h
    cases h
    exact ⟨rfl, rfl⟩
  refine m.gen (· = l) (fun k he' s' hk hh => by subst hk; rw [hl] at hh; cases hh; exact frB_ln hln) rfl rfl hother ρ.le_refl ?_ ?_ rfl rfl rfl (Nat.le_refl _) (fun _ _ _ => rfl) ?_ ?_ ?_
  · intro k u hu
    show memL k (l :: st.dom) = true
    rw [memL_cons, m.dom k u hu]; simp
  · intro k he' s' hk
    show s' ≤ st.cnt + 1
    by_cases hkl : k = l
    · subst hkl
      rw [(hself he' s' hk).2]; exact Nat.le_refl _
    · rw [hother k hkl] at hk
      have := m.stamp k he' s' hk
      omega
  · rintro k he' s' u j rfl h1 h2 h3
    obtain ⟨rfl, _⟩ := hself he' s' h1
    exact absurd h3 (hnb ρ u j)
  · rintro e k he' s' rfl h1
    obtain ⟨rfl, _⟩ := hself he' s' h1
    refine ⟨v, hv, ?_⟩
    have sub : ∀ j, Xs (st.upds [(k, some (frzHE h))]) ρ X0 j → Xl st ρ X0 (fun i => Nat.beq i k) j := by
      rintro j (h0 | ⟨l2, he2, s2, v2, g1, g2, g3⟩)
      · exact .inl h0
      · by_cases hl2 : l2 = k
        · subst hl2
          obtain ⟨rfl, _⟩ := hself he2 s2 g1
          exact absurd g3 (hnb ρ _ _)
        · rw [hother l2 hl2] at g1
          exact .inr ⟨l2, he2, s2, v2, beq_ne hl2, g1, g2, g3⟩
    cases h with
    | box own ty cs =>
      obtain ⟨b, arr, rfl, g1, g2, g3, g4⟩ := hok
      refine ⟨b, arr, rfl, g1, g2.mono ρ.le_refl e, fun _ => ?_, fun h => (by cases h)⟩
      cases own with
      | true => exact fun hx => m.notXl (Z := fun i => Nat.beq i k) hl hv (.inl rfl) (by simp) (sub b hx)
      | false => exact e.notIn (g3 rfl) (Array.getElem?_eq_some_iff.1 g1).1
    | row nn et K xs =>
      obtain ⟨hval, hn⟩ := m.rowVal (Z := fun i => Nat.beq i k) (e' := et) hl hv (by simp)
      refine ⟨(Kd.stands P (.sl et K)).val (Evo.mono ?_ sub) hval, hn⟩
      intro j hj
      exact m.Xlt j (sub j hj).sub
    | dat nn et K xs => exact ⟨(Kd.stands P (.sl et K)).val e hok.1, hok.2⟩
    | ln et K xs => cases hln
    | mp q K es => cases hln
    | mat nn et ag e1 K1 xs hole vl =>
      cases hole with
      | some h => cases hln
      | none =>
        obtain ⟨hval, hn⟩ := m.matVal (Z := fun i => Nat.beq i k) (e' := et) hl hv (by simp)
        refine ⟨(Kd.stands P (.sl et (elK ag e1 K1))).val (Evo.mono ?_ sub) hval, hn⟩
        intro j hj
        exact m.Xlt j (sub j hj).sub
  · rintro k k' _ _ _ _ _ _ _ rfl rfl _ _ _ _ _ _
    rfl

theorem noLn_fr {look : Nat → Option HE} : ∀ {ls : List Nat}, noLn look ls = true → ∀ l, l ∈ ls → ∀ h, look l = some h → h.frB = true
  | k :: r, hn, l, hl, h, hh => by
    simp only [noLn, Bool.and_eq_true] at hn
    rcases List.mem_cons.1 hl with rfl | hl
    · have h1 := hn.1
      rw [hh] at h1
      exact h1
    · exact noLn_fr hn.2 l hl h hh

theorem noLn_spec {look : Nat → Option HE} {ls : List Nat} (h : noLn look ls = true) (l : Nat) (hl : l ∈ ls) (he : HE) (hh : look l = some he) : he.isLn = false := frB_ln (noLn_fr h l hl he hh)

theorem frzHE_ln {h h' : HE} (he : frzHE h' = frzHE h) (hf : h.frB = true) : h'.frB = true := by
  cases h' with
  | ln e K xs =>
    have he : HE.ln e K xs = frzHE h := he
    cases h with
    | ln => cases hf
    | mat nn e ag e1 K1 ys hole vl =>
      cases hole with
      | none => cases he
      | some k => cases hf
    | _ => cases he
  | mat nn e ag e1 K1 xs hole vl =>
    cases hole with
    | none => rfl
    | some k =>
      have he : HE.mat nn e ag e1 K1 xs (some k) vl = frzHE h := he
      cases h with
      | mat nn e ag e1 K1 ys hole vl =>
        cases hole with
        | none => cases he
        | some k => cases hf
      | _ => cases he
  | mp q K es =>
    have he : HE.mp q K es = frzHE h := he
    cases h with
    | mp => cases hf
    | mat nn e ag e1 K1 ys hole vl =>
      cases hole with
      | none => cases he
      | some k => cases hf
    | _ => cases he
  | _ => rfl

theorem frzHE_idem (h : HE) : frzHE (frzHE h) = frzHE h := by
  cases h with
  | mat nn e ag e1 K1 xs hole vl => cases hole <;> rfl
  | _ => rfl

theorem frz_state : ∀ (ls : List Nat) (look : Nat → Option HE) (st : St), (∀ l, l ∈ ls → ∀ h, look l = some h → h.frB = true) → (∀ l h, look l = some h → ∃ h' s, st.hp l = some (h', s) ∧ frzHE h' = frzHE h) → (∀ l, look l = none → st.hp l = none) → Mt P glb Bk X0 w0 st ρ a W →
    Mt P glb Bk X0 w0 (st.upds (frz look ls)) ρ a W ∧ (∀ l h s, (st.upds (frz look ls)).hp l = some (h, s) → (memL l ls = true ∧ ∀ ρ u k, ¬ OwnB ρ h u k) ∨ st.hp l = some (h, s) ∧ memL l ls = false) ∧ (st.upds (frz look ls)).tm = st.tm
  | [], look, st, _, _, _, m => ⟨m, fun l h s hh => .inr ⟨hh, rfl⟩, rfl⟩
  | k :: r, look, st, hln, hsome, hnone, m => by
    have hln' := fun l hl => hln l (List.mem_cons_of_mem _ hl)
    cases hk : look k with
    | none =>
      have hf : frz look (k :: r) = frz look r := by simp [frz, hk]
      rw [hf]
      obtain ⟨m', hc, ht⟩ := frz_state r look st hln' hsome hnone m
      refine ⟨m', fun l h s hh => ?_, ht⟩
      rcases hc l h s hh with ⟨h1, h2⟩ | ⟨h1, h2⟩
      · exact .inl ⟨by rw [memL_cons, h1]; simp, h2⟩
      · refine .inr ⟨h1, ?_⟩
        rw [memL_cons, h2]
        have : l ≠ k := by
          intro hlk; subst hlk
          rw [hnone l hk] at h1; cases h1
        rw [beq_ne this]; rfl
    | some h0 =>
      obtain ⟨h', s', hst, hfe⟩ := hsome k h0 hk
      have hf : frz look (k :: r) = (k, some (frzHE h0)) :: frz look r := by simp [frz, hk]
      rw [hf]
      have m1 := m.frz1 hst (frzHE_ln hfe (hln k List.mem_cons_self h0 hk))
      rw [hfe] at m1
      have hhp : (st.upds [(k, some (frzHE h0))]).hp = updf st.hp k (some (frzHE h0, st.cnt + 1)) := rfl
      have hu : st.upds ((k, some (frzHE h0)) :: frz look r) = (st.upds [(k, some (frzHE h0))]).upds (frz look r) := rfl
      obtain ⟨m', hc, ht⟩ := frz_state r look (st.upds [(k, some (frzHE h0))]) hln' (fun l h hl => by
        by_cases hlk : l = k
        · subst hlk
          rw [hk] at hl; cases hl
          exact ⟨_, _, by rw [hhp, updf_same], frzHE_idem h0⟩
        · rw [hhp, updf_other _ _ hlk]; exact hsome l h hl) (fun l hl => by
        have hlk : l ≠ k := by intro h; subst h; rw [hk] at hl; cases hl
        rw [hhp, updf_other _ _ hlk]; exact hnone l hl) m1
      rw [hu]
      refine ⟨m', fun l h s hh => ?_, ht⟩
      rcases hc l h s hh with ⟨h1, h2⟩ | ⟨h1, h2⟩
      · exact .inl ⟨by rw [memL_cons, h1]; simp, h2⟩
      · rw [hhp] at h1
        by_cases hlk : l = k
        · subst hlk
          rw [updf_same] at h1
          cases h1
          exact .inl ⟨by rw [memL_cons]; simp, frz_noOwn (hln l List.mem_cons_self h0 hk)⟩
        · rw [updf_other _ _ hlk] at h1
          exact .inr ⟨h1, by rw [memL_cons, h2, beq_ne hlk]; rfl⟩

theorem Mt.frz (m : Mt P glb Bk X0 w0 st ρ a W) (ls : List Nat) (hln : noLn st.look ls = true) : Mt P glb Bk X0 w0 (st.upds (frz st.look ls)) ρ a W ∧ ∀ k, Xs (st.upds (frz st.look ls)) ρ X0 k → Xl st ρ X0 (fun l => memL l ls) k := by
  obtain ⟨m', hc, _⟩ := frz_state ls st.look st (noLn_fr hln) (fun l h hl => by obtain ⟨s, hs⟩ := look_some hl; exact ⟨h, s, hs, rfl⟩) (fun l hl => by
    unfold St.look at hl
    cases hh : st.hp l with
    | none => rfl
    | some p => rw [hh] at hl; cases hl) m
  refine ⟨m', ?_⟩
  rintro k (h | ⟨l, he, s, v, h1, h2, h3⟩)
  · exact .inl h
  · rcases hc l he s h1 with ⟨_, g⟩ | ⟨g1, g2⟩
    · exact absurd h3 (g ρ v k)
    · exact .inr ⟨l, he, s, v, g2, g1, h2, h3⟩

theorem memL_mem {l : Nat} : ∀ {ls : List Nat}, l ∈ ls → memL l ls = true
  | k :: r, h => by
    rw [memL_cons]
    rcases List.mem_cons.1 h with rfl | h
    · simp
    · rw [memL_mem h]; simp

theorem Fits.frzM (m : Mt P glb Bk X0 w0 st ρ a W) (ls : List Nat) (hln : noLn st.look ls = true) {sv : SV} {v : Value} (hb : BelM W W') (hQ : Q sv (GX.frz st.look ls))
    (hv : ∀ Xn : Nat → Prop, Evo (Xl st ρ X0 (fun l => memL l ls)) W' Xn W' → Evo (Xl st ρ X0 (fun l => memL l ls)) W Xn W' → (∀ k, Xn k → k < W.heap.size) → RepV P ρ Xn W' sv v) : Fits P glb Bk X0 w0 st ρ a W Q v W' := by
  obtain ⟨m1, hsub⟩ := m.frz ls hln
  have m2 := m1.belM hb
  refine ⟨sv, _, ρ, hQ, ρ.le_refl, m2, hv _ (Evo.mono m2.Xlt hsub) ((Evo.mono m1.Xlt hsub).trans (m1.evoM hb)) m1.Xlt, hb.size⟩

theorem Fits.frz (m : Mt P glb Bk X0 w0 st ρ a W) (ls : List Nat) (hln : noLn st.look ls = true) {sv : SV} {v : Value} (hb : Below W.heap.size W W') (hQ : Q sv (GX.frz st.look ls))
    (hv : ∀ Xn : Nat → Prop, Evo (Xl st ρ X0 (fun l => memL l ls)) W' Xn W' → Evo (Xl st ρ X0 (fun l => memL l ls)) W Xn W' → (∀ k, Xn k → k < W.heap.size) → RepV P ρ Xn W' sv v) : Fits P glb Bk X0 w0 st ρ a W Q v W' := Fits.frzM m ls hln (.ofBelow hb) hQ hv

theorem lastU_nones {l L : Nat} {he he' : HE} : ∀ (pre : List (Nat × Option HE)), (∀ x, x ∈ pre → x.2 = none) → lastU (pre ++ [(L, some he')]) l = some (some he) → l = L ∧ he = he'
  | [], _, h => by
    simp only [List.nil_append, lastU] at h
    cases hb : Nat.beq l L with
    | false => rw [hb] at h; cases h
    | true => rw [hb] at h; cases h; exact ⟨Nat.eq_of_beq_eq_true hb, rfl⟩
  | (k, x) :: r, hp, h => by
    have hx : x = none := hp (k, x) List.mem_cons_self
    subst hx
    simp only [List.cons_append, lastU] at h
    cases hr : lastU (r ++ [(L, some he')]) l with
    | some y =>
      rw [hr] at h
      cases h
      exact lastU_nones r (fun x hx => hp x (List.mem_cons_of_mem _ hx)) hr
    | none =>
      rw [hr] at h
      cases hb : Nat.beq l k <;> rw [hb] at h <;> cases h

theorem vlab_ne (lab : Nat) : vlab lab ≠ lab := by unfold vlab dl; omega
theorem rowsL_nl (look : Nat → Option HE) (e1 : TypeId) (K1 : Kd) (e : TypeId) (K : Kd) (r : List SC) : rowsL look e1 K1 (.nl e K :: r) = (rowsL look e1 K1 r).map fun p => ([] :: p.1, p.2) := rfl
theorem rowsL_own (look : Nat → Option HE) (e1 : TypeId) (K1 : Kd) (l : Nat) (r : List SC) : rowsL look e1 K1 (.own l :: r) = (match look l with
    | some (.row _ e' K' xs) => cond (Nat.beq e' e1) (if h : K' = K1 then (match rowsL look e1 K1 r with
      | some p => cond (memL l p.2) none (some (castL h xs :: p.1, l :: p.2))
      | none => none) else none) none
    | _ => none) := rfl

theorem rowsL_ok (m : Mt P glb Bk X0 w0 st ρ a W) {e1 : TypeId} {K1 : Kd} (hf : K1.flat = true) {X : Nat → Prop} : ∀ (cs : List SC) (xs : List (List K1.T)) (ls : List Nat) (us : List Value), rowsL st.look e1 K1 cs = some (xs, ls) → RepCs P ρ X W cs us →
    us.length = xs.length ∧ (∀ (j : Nat) u xr, us[j]? = some u → xs[j]? = some xr → InRow P W e1 K1 xr u) ∧
    (∀ (j : Nat) u k, us[j]? = some u → u.ownBlock = some k → ∃ l he s, l ∈ ls ∧ st.hp l = some (he, s) ∧ ρ l = some u ∧ OwnB ρ he u k) ∧
    (∀ (j j' : Nat) u u' k, j ≠ j' → us[j]? = some u → us[j']? = some u' → u.ownBlock = some k → u'.ownBlock ≠ some k) ∧
    (∀ l, l ∈ ls → ∃ nn e K ys s, st.hp l = some (.row nn e K ys, s))
  | [], xs, ls, us, h, hr => by
    cases h
    have : us = [] := hr
    subst this
    exact ⟨rfl, fun j u xr h => by simp at h, fun j u k h => by simp at h, fun j j' u u' k _ h => by simp at h, fun l h => by simp at h⟩
  | c :: r, xs, ls, us, h, hr => by
    obtain ⟨u0, us', rfl, h0, hr'⟩ := hr
    cases c with
    | nl e K =>
      have h0 : u0 = .slice none 0 0 := h0
      rw [rowsL_nl] at h
      cases hq : rowsL st.look e1 K1 r with
      | none => rw [hq] at h; cases h
      | some p =>
        rw [hq] at h
        cases h
        obtain ⟨g1, g2, g3, g4, g5⟩ := rowsL_ok m hf r p.1 p.2 us' hq hr'
        have hno : ∀ k, u0.ownBlock ≠ some k := by intro k; rw [h0]; simp [Value.ownBlock]
        refine ⟨by simp [g1], fun j u xr hu hx => ?_, fun j u k hu hk => ?_, fun j j' u u' k hne hu hu' hk => ?_, g5⟩
        · cases j with
          | zero =>
            simp only [List.getElem?_cons_zero, Option.some.injEq] at hu hx
            subst hu; subst hx
            rw [h0]
            exact ⟨[], World.ownsRow_nil W _ e1 K1.n, fun i x hx => by simp at hx⟩
          | succ j => exact g2 j u xr (by simpa using hu) (by simpa using hx)
        · cases j with
          | zero =>
            simp only [List.getElem?_cons_zero, Option.some.injEq] at hu
            subst hu
            exact absurd hk (hno k)
          | succ j => exact g3 j u k (by simpa using hu) hk
        · cases j with
          | zero =>
            simp only [List.getElem?_cons_zero, Option.some.injEq] at hu
            subst hu
            exact absurd hk (hno k)
          | succ j =>
            cases j' with
            | zero =>
              simp only [List.getElem?_cons_zero, Option.some.injEq] at hu'
              subst hu'
              exact hno k
            | succ j' => exact g4 j j' u u' k (fun h => hne (by rw [h])) (by simpa using hu) (by simpa using hu') hk
    | own l =>
      obtain ⟨hρ, hsl⟩ := h0
      rw [rowsL_own] at h
      split at h
      · rename_i nn e' K' ys hl
        cases hb : Nat.beq e' e1 with
        | false => rw [hb] at h; cases h
        | true =>
          obtain rfl := Nat.eq_of_beq_eq_true hb
          rw [hb, cond_true] at h
          split at h
          · rename_i hK
            subst hK
            split at h
            · rename_i p hq
              cases hm : memL l p.2 with
              | true => rw [hm] at h; cases h
              | false =>
                rw [hm, cond_false] at h
                cases h
                obtain ⟨s, hs⟩ := look_some hl
                obtain ⟨v', hv', hok⟩ := m.hps l _ s hs
                rw [hρ] at hv'; injection hv' with hv'
                rw [← hv'] at hok
                obtain ⟨hpos, ⟨fl, ho, hc⟩, _⟩ := hok
                obtain ⟨g1, g2, g3, g4, g5⟩ := rowsL_ok m hf r p.1 p.2 us' hq hr'
                have hown : ∀ k, u0.ownBlock = some k → OwnB ρ (.row nn e' K' ys) u0 k := by
                  intro k hk
                  rw [ownB_row]
                  cases u0 with
                  | slice A n c => cases A with
                    | none => simp [Value.ownBlock] at hk
                    | some ad => exact hk
                  | _ => simp [Value.ownBlock] at hk
                have cross : ∀ (j : Nat) u' k, us'[j]? = some u' → u0.ownBlock = some k → u'.ownBlock = some k → False := by
                  intro j u' k hu' hk hk'
                  obtain ⟨l', he', s', hl', q1, q2, q3⟩ := g3 j u' k hu' hk'
                  have := m.dis l l' _ he' s s' u0 u' k hs q1 hρ q2 (hown k hk) q3
                  subst this
                  rw [memL_mem hl'] at hm; cases hm
                refine ⟨by simp [g1], fun j u xr hu hx => ?_, fun j u k hu hk => ?_, fun j j' u u' k hne hu hu' hk hk' => ?_, fun l' hl' => ?_⟩
                · cases j with
                  | zero =>
                    simp only [List.getElem?_cons_zero, Option.some.injEq] at hu hx
                    subst hu; subst hx
                    exact ⟨fl, ho, fun i x hx => Kd.flat_cells P K' hf (hc i x hx)⟩
                  | succ j => exact g2 j u xr (by simpa using hu) (by simpa using hx)
                · cases j with
                  | zero =>
                    simp only [List.getElem?_cons_zero, Option.some.injEq] at hu
                    subst hu
                    exact ⟨l, _, s, List.mem_cons_self, hs, hρ, hown k hk⟩
                  | succ j =>
                    obtain ⟨l', he', s', q0, q⟩ := g3 j u k (by simpa using hu) hk
                    exact ⟨l', he', s', List.mem_cons_of_mem _ q0, q⟩
                · cases j with
                  | zero =>
                    simp only [List.getElem?_cons_zero, Option.some.injEq] at hu
                    subst hu
                    cases j' with
                    | zero => exact hne rfl
                    | succ j' => exact cross j' u' k (by simpa using hu') hk hk'
                  | succ j =>
                    cases j' with
                    | zero =>
                      simp only [List.getElem?_cons_zero, Option.some.injEq] at hu'
                      subst hu'
                      exact cross j u k (by simpa using hu) hk' hk
                    | succ j' => exact g4 j j' u u' k (fun h => hne (by rw [h])) (by simpa using hu) (by simpa using hu') hk hk'
                · rcases List.mem_cons.1 hl' with rfl | hl'
                  · exact ⟨_, _, _, _, s, hs⟩
                  · exact g5 l' hl'
            · cases h
          · cases h
      · cases h
    | _ => cases h

theorem Mt.toMat (m : Mt P glb Bk X0 w0 st ρ a W) (hlab : memL lab st.dom = false) (hvl : memL (vlab lab) st.dom = false) (ls : List Nat) (hls : ∀ l, l ∈ ls → ∀ he s, st.hp l = some (he, s) → he.isLn = false)
    (nn : Bool) (e : TypeId) (ag : Bool) (e1 : TypeId) (K1 : Kd) (xs : List (List K1.T)) (us : List Value) (v' : Value) (hos : W'.os = W.os) (htape : W'.tape = W.tape) (hout : W'.output = W.output) (hsz : W.heap.size ≤ W'.heap.size)
    (hkeep : ∀ k, k < W.heap.size → (∀ l he s v, l ∈ ls → st.hp l = some (he, s) → ρ l = some v → ¬ OwnB ρ he v k) → W'.heap[k]? = W.heap[k]?)
    (hk : ∀ k, (v'.ownBlock = some k ∨ ∃ (j : Nat) (u : Value), us[j]? = some u ∧ u.ownBlock = some k) → W.heap.size ≤ k ∨ ∃ l he s v, l ∈ ls ∧ st.hp l = some (he, s) ∧ ρ l = some v ∧ OwnB ρ he v k)
    (hok : MatOK P W' e e1 K1 xs none us v') (hnn : nn = true → ∃ a n c, v' = .slice (some a) n c) :
    Mt P glb Bk X0 w0 (st.upds ((ls.map fun l => (l, none)) ++ [(vlab lab, none), (lab, some (.mat nn e ag e1 K1 xs none (vlab lab)))])) ((ρ.put (vlab lab) (.tuple us.toArray)).put lab v') a W' ∧ ρ.le ((ρ.put (vlab lab) (.tuple us.toArray)).put lab v') := by
  have hle1 := m.le_put hvl (.tuple us.toArray)
  have hle : ρ.le ((ρ.put (vlab lab) (.tuple us.toArray)).put lab v') := by
    intro l u hu
    have hne : l ≠ lab := by
      intro h; subst h
      rw [m.dom l u hu] at hlab; cases hlab
    rw [Lab.put_other _ _ hne]
    exact hle1 l u hu
  have hρL : ((ρ.put (vlab lab) (.tuple us.toArray)).put lab v') lab = some v' := Lab.put_same _ _ _
  have hρV : ((ρ.put (vlab lab) (.tuple us.toArray)).put lab v') (vlab lab) = some (.tuple us.toArray) := by rw [Lab.put_other _ _ (vlab_ne lab), Lab.put_same]
  have hmem : ∀ l, memL l (((ls.map fun l => ((l, none) : Nat × Option HE)) ++ [((vlab lab, none) : Nat × Option HE), (lab, some (HE.mat nn e ag e1 K1 xs none (vlab lab)))]).map (·.1)) = true ↔ l ∈ ls ∨ l = vlab lab ∨ l = lab := by
    intro l
    rw [memL_iff]
    simp
  refine ⟨(m.adopt _ lab (.mat nn e ag e1 K1 xs none (vlab lab)) v' ?_ ?_ hle hρL ?_ hos htape hout hsz ?_ ?_ ?_).1, hle⟩
  · intro l he h
    refine lastU_nones (l := l) ((ls.map fun l => ((l, none) : Nat × Option HE)) ++ [(vlab lab, none)]) (fun x hx => ?_) (by rw [List.append_assoc]; exact h)
    rcases List.mem_append.1 hx with hx | hx
    · obtain ⟨l', _, rfl⟩ := List.mem_map.1 hx; rfl
    · rcases List.mem_singleton.1 hx with rfl; rfl
  · intro l he s hl h
    rcases (hmem l).1 hl with hl | rfl | rfl
    · exact hls l hl he s h
    · exact absurd h (m.nolab hvl he s)
    · exact absurd h (m.nolab hlab he s)
  · intro l v hv
    by_cases h1 : l = lab
    · exact .inr ((hmem l).2 (.inr (.inr h1)))
    · by_cases h2 : l = vlab lab
      · exact .inr ((hmem l).2 (.inr (.inl h2)))
      · rw [Lab.put_other _ _ h1, Lab.put_other _ _ h2] at hv
        exact .inl hv
  · intro k hk hno
    exact hkeep k hk (fun l he s v hl => hno l he s v ((hmem l).2 (.inl hl)))
  · intro k hb
    have hb' : v'.ownBlock = some k ∨ ∃ (j : Nat) (u : Value), us[j]? = some u ∧ u.ownBlock = some k := by
      rcases (mat_own hρV).1 hb with h | ⟨j, u, _, h1, h2⟩
      · exact .inl h
      · exact .inr ⟨j, u, h1, h2⟩
    refine ⟨?_, ?_⟩
    · have hh : HEok P 0 ((ρ.put (vlab lab) (.tuple us.toArray)).put lab v') (fun _ => False) W' (.mat nn e ag e1 K1 xs none (vlab lab)) v' := ⟨⟨us, hρV, hok⟩, hnn⟩
      exact (hh.lt hb).2
    · rcases hk k hb' with h | ⟨l, he, s, v, hl, h⟩
      · exact .inl h
      · exact .inr ⟨l, he, s, v, (hmem l).2 (.inl hl), h⟩
  · intro _
    exact ⟨⟨us, hρV, hok⟩, hnn⟩
end
end Go.GX
