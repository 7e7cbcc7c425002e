/- Part 2 of the texts behind the proof: Gx5, Gx6, Gx7, Gx8, Gx9. -/
import Derived.Test.YtnhgfmegaoibeaaDoorG01
import Derived.TacticsIn
import Derived.RangeFuncCalls
import Derived.Laws.Small
import Derived.Laws.Slices
import Derived.Laws.Rows
import Derived.Laws.Cover3
import Derived.Laws.StructEq
import Derived.Shelf.Abstract
set_option linter.unusedSimpArgs false
set_option linter.unusedVariables false
set_option linter.unusedVariables false
namespace Go.GX
open Go.RowKit Go.Shelf Go.Proofs

def GlbOK (P : Program) (glb : Nat → Option GV) (X : Nat → Prop) (W : World) : Prop :=
  ∀ g v, glb g = some v → ∃ ty, ((Kd.ptr ty v.K).sem P).val X W v.x (.pointer (some ⟨g, 0, none⟩))

theorem GlbOK.evo {P : Program} {glb : Nat → Option GV} {X X' : Nat → Prop} {W W' : World} (h : GlbOK P glb X W) (e : Evo X W X' W') : GlbOK P glb X' W' :=
  fun g v hv => by
    obtain ⟨ty, ht⟩ := h g v hv
    exact ⟨ty, (Kd.stands P (.ptr ty v.K)).val e ht⟩

def HE.isLn : HE → Bool
  | .ln _ _ _ => true
  | _ => false

def ownBlk : HE → Value → Option Nat
  | .box true _ _, .pointer (some a) => some a.block
  | .row _ _ _ _, .slice (some a) _ _ => some a.block
  | .ln _ _ (_ :: _), .slice (some a) _ _ => some a.block
  | .mat _ _ _ _ _ _ _ _, .slice (some a) _ _ => some a.block
  | _, _ => none

def isHole (hole : Option Nat) (j : Nat) : Bool :=
  match hole with
  | some h => Nat.beq h j
  | none => false

def HE.ver : HE → Nat → Option Nat
  | .mat _ _ _ _ _ _ hole vl, j => cond (isHole hole j) none (some vl)
  | _, _ => none

def OwnB (ρ : Lab) (he : HE) (v : Value) (k : Nat) : Prop :=
  ownBlk he v = some k ∨ ∃ vl j u, ∃ us : List Value, he.ver j = some vl ∧ ρ vl = some (.tuple us.toArray) ∧ us[j]? = some u ∧ u.ownBlock = some k

theorem ownB_plain {ρ : Lab} {he : HE} (h : ∀ j, he.ver j = none) {v : Value} {k : Nat} : OwnB ρ he v k ↔ ownBlk he v = some k := by
  constructor
  · rintro (h1 | ⟨vl, j, u, us, h1, _⟩)
    · exact h1
    · rw [h j] at h1; cases h1
  · exact .inl

theorem ownB_box {ρ : Lab} {o : Bool} {ty : TypeId} {cs : List SC} {v : Value} {k : Nat} : OwnB ρ (.box o ty cs) v k ↔ ownBlk (.box o ty cs) v = some k := ownB_plain fun _ => rfl
theorem ownB_row {ρ : Lab} {nn : Bool} {e : TypeId} {K : Kd} {xs : List K.T} {v : Value} {k : Nat} : OwnB ρ (.row nn e K xs) v k ↔ ownBlk (.row nn e K xs) v = some k := ownB_plain fun _ => rfl
theorem ownB_dat {ρ : Lab} {nn : Bool} {e : TypeId} {K : Kd} {xs : List K.T} {v : Value} {k : Nat} : OwnB ρ (.dat nn e K xs) v k ↔ ownBlk (.dat nn e K xs) v = some k := ownB_plain fun _ => rfl
theorem ownB_ln {ρ : Lab} {e : TypeId} {K : Kd} {xs : List K.T} {v : Value} {k : Nat} : OwnB ρ (.ln e K xs) v k ↔ ownBlk (.ln e K xs) v = some k := ownB_plain fun _ => rfl

theorem OwnB.le {ρ ρ' : Lab} (hρ : ρ.le ρ') {he : HE} {v : Value} {k : Nat} (h : OwnB ρ he v k) : OwnB ρ' he v k := by
  rcases h with h | ⟨vl, j, u, us, h1, h2, h3, h4⟩
  · exact .inl h
  · exact .inr ⟨vl, j, u, us, h1, hρ _ _ h2, h3, h4⟩

section
variable (P : Program)

def InRow (W : World) (e1 : TypeId) (K1 : Kd) (xr : List K1.T) (u : Value) : Prop :=
  ∃ fl : List Value, W.ownsRow 0 e1 K1.n u xr.length fl ∧ ∀ (i : Nat) x, xr[i]? = some x → (K1.sem P).cells (fun _ => False) W x ((fl.drop (i * K1.n)).take K1.n)

structure MatOK (W : World) (e e1 : TypeId) (K1 : Kd) (xs : List (List K1.T)) (hole : Option Nat) (us : List Value) (v : Value) : Prop where
  flat : K1.flat = true
  pos : 0 < K1.n
  len : us.length = xs.length
  out : ∃ hd : List Value, W.ownsRow 0 e 1 v xs.length hd ∧ ∀ (j : Nat) u, us[j]? = some u → isHole hole j = false → hd[j]? = some u
  inr : ∀ (j : Nat) u xr, us[j]? = some u → xs[j]? = some xr → isHole hole j = false → InRow P W e1 K1 xr u
  dis : ∀ (j j' : Nat) u u' k, j ≠ j' → us[j]? = some u → us[j']? = some u' → isHole hole j = false → isHole hole j' = false → u.ownBlock = some k → u'.ownBlock ≠ some k
  apart : ∀ (j : Nat) u k, us[j]? = some u → isHole hole j = false → u.ownBlock = some k → v.ownBlock ≠ some k

def HEok (base : Nat) (ρ : Lab) (X : Nat → Prop) (W : World) : HE → Value → Prop
  | .box own ty cs, v => ∃ b arr, v = .pointer (some ⟨b, 0, none⟩) ∧ W.heap[b]? = some (.cells arr ty (0, 0)) ∧ RepCs P ρ X W cs arr.toList ∧ (own = false → ¬ X b) ∧ (own = true → base ≤ b)
  | .row nn e K xs, v => 0 < K.n ∧ (∃ flat : List Value, W.ownsRow base e K.n v xs.length flat ∧ ∀ (j : Nat) x, xs[j]? = some x → (K.sem P).cells X W x ((flat.drop (j * K.n)).take K.n)) ∧ (nn = true → ∃ a n c, v = .slice (some a) n c)
  | .dat nn e K xs, v => ((Kd.sl e K).sem P).val X W xs v ∧ (nn = true → ∃ a n c, v = .slice (some a) n c)
  | .ln e K xs, v => K.flat = true ∧ ∃ A c, v = .slice A xs.length c ∧ xs.length ≤ c ∧ c ≤ maxLen ∧ (xs ≠ [] → ∃ ad, A = some ad ∧ (∃ cs t fr, W.heap[(ad : Addr).block]? = some (.cells cs t fr)) ∧
      ∀ (j : Nat) x, xs[j]? = some x → ∃ ecs : List Value, (K.sem P).cells (fun _ => False) W x ecs ∧ ∀ (i : Nat) u, ecs[i]? = some u → W.cell? (ad.add (j * K.n + i)) = some u)
  | .mat nn e ag e1 K1 xs hole vl, v => (∃ us : List Value, ρ vl = some (.tuple us.toArray) ∧ MatOK P W e e1 K1 xs hole us v) ∧ (nn = true → ∃ a n c, v = .slice (some a) n c)

def Xs (st : St) (ρ : Lab) (X0 : Nat → Prop) (k : Nat) : Prop :=
  X0 k ∨ ∃ l he s v, st.hp l = some (he, s) ∧ ρ l = some v ∧ OwnB ρ he v k

structure Bel (Bk : Nat → Prop) (w w' : World) : Prop where
  os : w'.os = w.os
  tape : w'.tape = w.tape
  output : w'.output = w.output
  size : w.heap.size ≤ w'.heap.size
  block : ∀ k, Bk k → w'.heap[k]? = w.heap[k]?

def DefOK (Bk : Nat → Prop) (W : World) (ds : List Deferred) : Prop :=
  ∃ Ds : List Nat, ds = Ds.map (fun D => ({ target := .collected D, args := #[] } : Deferred)) ∧ Ds.Nodup ∧ ∀ D, D ∈ Ds → W.heap[D]? = some (.deferred (some [])) ∧ ¬ Bk D

theorem DefOK.nil {Bk : Nat → Prop} {W : World} : DefOK Bk W [] := ⟨[], rfl, List.nodup_nil, fun D h => by simp at h⟩

theorem DefOK.keep {Bk : Nat → Prop} {W W' : World} {ds : List Deferred} (h : DefOK Bk W ds) (hk : ∀ D : Nat, W.heap[D]? = some (Obj.deferred (some [])) → W'.heap[D]? = W.heap[D]?) : DefOK Bk W' ds :=
  let ⟨Ds, h1, h2, h3⟩ := h
  ⟨Ds, h1, h2, fun D hD => ⟨(hk D (h3 D hD).1).trans (h3 D hD).1, (h3 D hD).2⟩⟩

structure Mt (glb : Nat → Option GV) (Bk X0 : Nat → Prop) (w0 : World) (st : St) (ρ : Lab) (a : Act) (W : World) : Prop where
  size : a.tmps.size = st.n
  dfr : DefOK Bk W a.defers
  tms : ∀ t, RepV P ρ (Xs st ρ X0) W (st.tm t) (a.tmps.getD t undef)
  hps : ∀ l he s, st.hp l = some (he, s) → ∃ v, ρ l = some v ∧ HEok P 0 ρ (Xs st ρ X0) W he v
  dis : ∀ l l' he he' s s' v v' k, st.hp l = some (he, s) → st.hp l' = some (he', s') → ρ l = some v → ρ l' = some v' → OwnB ρ he v k → OwnB ρ he' v' k → l = l'
  x0 : ∀ k, X0 k → k < W.heap.size
  bk : ∀ k, Bk k → k < w0.heap.size
  bel : Bel Bk w0 W
  nb : ∀ l he s v k, st.hp l = some (he, s) → ρ l = some v → OwnB ρ he v k → (he.isLn = false → ¬ Bk k) ∧ ¬ X0 k
  glb : GlbOK P glb (Xs st ρ X0) W
  dom : ∀ l v, ρ l = some v → memL l st.dom = true
  stamp : ∀ l he s, st.hp l = some (he, s) → s ≤ st.cnt
end

section
variable {P : Program} {glb : Nat → Option GV} {Bk X0 : Nat → Prop} {w0 : World} {st st' : St} {ρ ρ' : Lab} {a : Act} {W W' : World}

theorem mat_own {nn : Bool} {e : TypeId} {ag : Bool} {e1 : TypeId} {K1 : Kd} {xs : List (List K1.T)} {hole : Option Nat} {vl : Nat} {v : Value} {k : Nat} {us : List Value} (hu : ρ vl = some (.tuple us.toArray)) :
    OwnB ρ (.mat nn e ag e1 K1 xs hole vl) v k ↔ v.ownBlock = some k ∨ ∃ (j : Nat) (u : Value), isHole hole j = false ∧ us[j]? = some u ∧ u.ownBlock = some k := by
  have hb : ownBlk (.mat nn e ag e1 K1 xs hole vl) v = v.ownBlock := by
    cases v with
    | slice A n c => cases A <;> rfl
    | _ => rfl
  unfold OwnB
  rw [hb]
  refine or_congr Iff.rfl ⟨?_, ?_⟩
  · rintro ⟨vl', j, u, us', h1, h2, h3, h4⟩
    cases hh : isHole hole j with
    | true => simp [HE.ver, hh] at h1
    | false =>
      simp only [HE.ver, hh, cond_false, Option.some.injEq] at h1
      subst h1
      rw [hu] at h2
      injection h2 with h2; injection h2 with h2
      have h2 : us = us' := by simpa using h2
      subst h2
      exact ⟨j, u, hh, h3, h4⟩
  · rintro ⟨j, u, hh, h3, h4⟩
    exact ⟨vl, j, u, us, by simp [HE.ver, hh], hu, h3, h4⟩

theorem ownsRow_block {W : World} {base : Nat} {e : TypeId} {size n : Nat} {v : Value} {fl : List Value} (h : W.ownsRow base e size v n fl) {k : Nat} (hk : v.ownBlock = some k) : ∃ cs t fr, W.heap[k]? = some (.cells cs t fr) := by
  obtain ⟨_, h⟩ := h
  rcases h with ⟨rfl, _⟩ | ⟨g, cap, cur, rfl, _, h3, _⟩
  · simp [Value.ownBlock] at hk
  · simp only [Value.ownBlock, Option.some.injEq] at hk
    subst hk
    exact ⟨_, _, _, h3⟩

theorem ownsRow_keep {W W' : World} {base : Nat} {e : TypeId} {size n : Nat} {v : Value} {fl : List Value} (h : W.ownsRow base e size v n fl) (hb : ∀ k, v.ownBlock = some k → W'.heap[k]? = W.heap[k]?) : W'.ownsRow base e size v n fl := by
  obtain ⟨h0, h⟩ := h
  refine ⟨h0, ?_⟩
  rcases h with h | ⟨g, cap, cur, rfl, h2, h3, h4⟩
  · exact .inl h
  · exact .inr ⟨g, cap, cur, rfl, h2, (hb g rfl).trans h3, h4⟩

theorem HEok.cells {base : Nat} {X : Nat → Prop} {he : HE} {v : Value} {k : Nat} (h : HEok P base ρ X W he v) (hk : OwnB ρ he v k) : ∃ cs t fr, W.heap[k]? = some (.cells cs t fr) := by
  cases he with
  | box own ty cs =>
    rw [ownB_box] at hk
    obtain ⟨b, arr, rfl, hb, _⟩ := h
    cases own with
    | false => simp [ownBlk] at hk
    | true =>
      simp only [ownBlk, Option.some.injEq] at hk
      subst hk
      exact ⟨_, _, _, hb⟩
  | row nn e K xs =>
    rw [ownB_row] at hk
    obtain ⟨_, ⟨flat, ⟨_, ho⟩, _⟩, _⟩ := h
    rcases ho with ⟨rfl, _⟩ | ⟨g, cap, cur, rfl, _, hg, _⟩
    · simp [ownBlk] at hk
    · simp only [ownBlk, Option.some.injEq] at hk
      subst hk
      exact ⟨_, _, _, hg⟩
  | dat nn e K xs =>
    rw [ownB_dat] at hk
    cases v <;> simp [ownBlk] at hk
  | ln e K xs =>
    rw [ownB_ln] at hk
    obtain ⟨_, A, c, rfl, _, _, h⟩ := h
    cases xs with
    | nil => simp [ownBlk] at hk
    | cons x xs =>
      obtain ⟨ad, rfl, hc, _⟩ := h (by simp)
      simp only [ownBlk, Option.some.injEq] at hk
      subst hk
      exact hc
  | mat nn e ag e1 K1 xs hole vl =>
    obtain ⟨⟨us, hu, m⟩, _⟩ := h
    rcases (mat_own hu).1 hk with hk | ⟨j, u, hh, hj, hk⟩
    · obtain ⟨hd, ho, _⟩ := m.out
      exact ownsRow_block ho hk
    · have hlt : j < xs.length := by rw [← m.len]; exact (List.getElem?_eq_some_iff.1 hj).1
      obtain ⟨fl, ho, _⟩ := m.inr j u xs[j] hj (List.getElem?_eq_getElem hlt) hh
      exact ownsRow_block ho hk

theorem HEok.lt {base : Nat} {X : Nat → Prop} {he : HE} {v : Value} {k : Nat} (h : HEok P base ρ X W he v) (hk : OwnB ρ he v k) : 0 ≤ k ∧ k < W.heap.size := by
  obtain ⟨cs, t, fr, hc⟩ := h.cells hk
  exact ⟨Nat.zero_le _, (Array.getElem?_eq_some_iff.1 hc).1⟩

theorem OwnB.back {base : Nat} {X : Nat → Prop} {he : HE} {v : Value} {k : Nat} (hok : HEok P base ρ X W he v) (hρ : ρ.le ρ') (h : OwnB ρ' he v k) : OwnB ρ he v k := by
  cases he with
  | mat nn e ag e1 K1 xs hole vl =>
    obtain ⟨⟨us, hu, _⟩, _⟩ := hok
    exact (mat_own hu).2 ((mat_own (hρ _ _ hu)).1 h)
  | box own ty cs => exact ownB_box.2 (ownB_box.1 h)
  | row nn e K xs => exact ownB_row.2 (ownB_row.1 h)
  | dat nn e K xs => exact ownB_dat.2 (ownB_dat.1 h)
  | ln e K xs => exact ownB_ln.2 (ownB_ln.1 h)

theorem MatOK.keep {e e1 : TypeId} {K1 : Kd} {xs : List (List K1.T)} {hole : Option Nat} {us : List Value} {v : Value} (m : MatOK P W e e1 K1 xs hole us v) (h0 : ∀ k, v.ownBlock = some k → W'.heap[k]? = W.heap[k]?)
    (h1 : ∀ (j : Nat) u k, us[j]? = some u → isHole hole j = false → u.ownBlock = some k → W'.heap[k]? = W.heap[k]?) : MatOK P W' e e1 K1 xs hole us v where
  flat := m.flat
  pos := m.pos
  len := m.len
  out := let ⟨hd, ho, h⟩ := m.out; ⟨hd, ownsRow_keep ho h0, h⟩
  inr := fun j u xr hj hx hh => let ⟨fl, ho, hc⟩ := m.inr j u xr hj hx hh; ⟨fl, ownsRow_keep ho (fun k hk => h1 j u k hj hh hk), fun i x hi => Kd.flat_cells P K1 m.flat (hc i x hi)⟩
  dis := m.dis
  apart := m.apart

theorem Mt.Xlt (m : Mt P glb Bk X0 w0 st ρ a W) : ∀ k, Xs st ρ X0 k → k < W.heap.size := by
  rintro k (h | ⟨l, he, s, v, h1, h2, h3⟩)
  · exact m.x0 k h
  · obtain ⟨v', hv', hok⟩ := m.hps l he s h1
    rw [h2] at hv'
    injection hv' with hv'
    subst hv'
    exact (hok.lt h3).2

theorem Mt.glbX (m : Mt P glb Bk X0 w0 st ρ a W) : GlbOK P glb (Xs st ρ X0) W := m.glb

theorem Mt.evoGen (m : Mt P glb Bk X0 w0 st ρ a W) (U : Nat → Prop) (hother : ∀ l, ¬ U l → st'.hp l = st.hp l) (hρ : ρ.le ρ') (hsz : W.heap.size ≤ W'.heap.size)
    (hkeep : ∀ k, k < W.heap.size → (∀ l he s v, U l → st.hp l = some (he, s) → ρ l = some v → ¬ OwnB ρ he v k) → W'.heap[k]? = W.heap[k]?)
    (hblk : ∀ l he s v k, U l → st'.hp l = some (he, s) → ρ' l = some v → OwnB ρ' he v k → k < W'.heap.size ∧ (W.heap.size ≤ k ∨ ∃ l' he' s' v', U l' ∧ st.hp l' = some (he', s') ∧ ρ l' = some v' ∧ OwnB ρ he' v' k)) :
    Evo (Xs st ρ X0) W (Xs st' ρ' X0) W' where
  size := hsz
  keep := fun k hk hx => hkeep k (let ⟨_, _, _, h⟩ := hk; (Array.getElem?_eq_some_iff.1 h).1) (fun l he s v hU h1 h2 h3 => hx (.inr ⟨l, he, s, v, h1, h2, h3⟩))
  back := by
    rintro k (h | ⟨l, he, s, v, h1, h2, h3⟩) hk
    · exact .inl h
    · by_cases hU : U l
      · rcases (hblk l he s v k hU h1 h2 h3).2 with h | ⟨l', he', s', v', _, g1, g2, g3⟩
        · omega
        · exact .inr ⟨l', he', s', v', g1, g2, g3⟩
      · rw [hother l hU] at h1
        obtain ⟨v', hv', hok⟩ := m.hps l he s h1
        have := hρ l v' hv'
        rw [h2] at this
        injection this with this
        subst this
        exact .inr ⟨l, he, s, v, h1, hv', h3.back hok hρ⟩
  low := by
    rintro k (h | ⟨l, he, s, v, h1, h2, h3⟩)
    · exact Nat.lt_of_lt_of_le (m.x0 k h) hsz
    · by_cases hU : U l
      · exact (hblk l he s v k hU h1 h2 h3).1
      · rw [hother l hU] at h1
        obtain ⟨v', hv', hok⟩ := m.hps l he s h1
        have := hρ l v' hv'
        rw [h2] at this
        injection this with this
        subst this
        exact Nat.lt_of_lt_of_le (hok.lt (h3.back hok hρ)).2 hsz

theorem HEok.mono {base : Nat} {X X' : Nat → Prop} (hρ : ρ.le ρ') (e : Evo X W X' W') {he : HE} {v : Value} (hb : ∀ k, OwnB ρ he v k → W'.heap[k]? = W.heap[k]?) (h : HEok P base ρ X W he v) : HEok P base ρ' X' W' he v := by
  cases he with
  | box own ty cs =>
    obtain ⟨b, arr, rfl, h1, h2, h3, h4⟩ := h
    have hlt := (Array.getElem?_eq_some_iff.1 h1).1
    refine ⟨b, arr, rfl, ?_, h2.mono hρ e, fun ho => e.notIn (h3 ho) hlt, h4⟩
    cases own with
    | true => rw [hb b (.inl rfl)]; exact h1
    | false => rw [e.keep b ⟨_, _, _, h1⟩ (h3 rfl)]; exact h1
  | row nn et K xs =>
    obtain ⟨h0, ⟨flat, ho, hc⟩, hnn⟩ := h
    refine ⟨h0, ⟨flat, ?_, fun j x hj => (Kd.stands P K).cells e (hc j x hj)⟩, hnn⟩
    obtain ⟨g1, g2⟩ := ho
    refine ⟨g1, ?_⟩
    rcases g2 with g2 | ⟨g, cap, cur, rfl, k1, k2, k3⟩
    · exact .inl g2
    · exact .inr ⟨g, cap, cur, rfl, k1, by rw [hb g (.inl rfl)]; exact k2, k3⟩
  | dat nn et K xs => exact ⟨(Kd.stands P (.sl et K)).val e h.1, h.2⟩
  | ln et K xs =>
    obtain ⟨hf, A, c, rfl, h1, h2, h3⟩ := h
    refine ⟨hf, A, c, rfl, h1, h2, fun hne => ?_⟩
    cases xs with
    | nil => exact absurd rfl hne
    | cons x xs =>
      obtain ⟨ad, rfl, ⟨cs, t, fr, hc⟩, hg⟩ := h3 (by simp)
      have hbl := hb ad.block (.inl rfl)
      refine ⟨ad, rfl, ⟨cs, t, fr, hbl.trans hc⟩, fun j y hy => ?_⟩
      obtain ⟨ecs, k1, k2⟩ := hg j y hy
      exact ⟨ecs, Kd.flat_cells P K hf k1, fun i u hu => (World.cell?_of_block (by rw [add_block]; exact hbl)).trans (k2 i u hu)⟩
  | mat nn et ag e1 K1 xs hole vl =>
    obtain ⟨⟨us, hu, m⟩, hnn⟩ := h
    exact ⟨⟨us, hρ _ _ hu, m.keep (fun k hk => hb k ((mat_own hu).2 (.inl hk))) (fun j u k hj hh hk => hb k ((mat_own hu).2 (.inr ⟨j, u, hh, hj, hk⟩)))⟩, hnn⟩

theorem Mt.gen (m : Mt P glb Bk X0 w0 st ρ a W) (U : Nat → Prop) (hnl : ∀ l he s, U l → st.hp l = some (he, s) → he.isLn = false) (htm : st'.tm = st.tm) (hn : st'.n = st.n) (hother : ∀ l, ¬ U l → st'.hp l = st.hp l) (hρ : ρ.le ρ')
    (hdom : ∀ l v, ρ' l = some v → memL l st'.dom = true) (hstamp : ∀ l he s, st'.hp l = some (he, s) → s ≤ st'.cnt)
    (hos : W'.os = W.os) (htape : W'.tape = W.tape) (hout : W'.output = W.output) (hsz : W.heap.size ≤ W'.heap.size)
    (hkeep : ∀ k, k < W.heap.size → (∀ l he s v, U l → st.hp l = some (he, s) → ρ l = some v → ¬ OwnB ρ he v k) → W'.heap[k]? = W.heap[k]?)
    (hblk : ∀ l he s v k, U l → st'.hp l = some (he, s) → ρ' l = some v → OwnB ρ' he v k → k < W'.heap.size ∧ (W.heap.size ≤ k ∨ ∃ l' he' s' v', U l' ∧ st.hp l' = some (he', s') ∧ ρ l' = some v' ∧ OwnB ρ he' v' k))
    (hnew : Evo (Xs st ρ X0) W (Xs st' ρ' X0) W' → ∀ l he s, U l → st'.hp l = some (he, s) → ∃ v, ρ' l = some v ∧ HEok P 0 ρ' (Xs st' ρ' X0) W' he v)
    (hdis : ∀ l l' he he' s s' v v' k, U l → U l' → st'.hp l = some (he, s) → st'.hp l' = some (he', s') → ρ' l = some v → ρ' l' = some v' → OwnB ρ' he v k → OwnB ρ' he' v' k → l = l') :
    Mt P glb Bk X0 w0 st' ρ' a W' := by
  have e := m.evoGen U hother hρ hsz hkeep hblk
  have old : ∀ l he s v k, ¬ U l → st'.hp l = some (he, s) → ρ' l = some v → OwnB ρ' he v k → st.hp l = some (he, s) ∧ ρ l = some v ∧ OwnB ρ he v k := by
    intro l he s v k hU h1 h2 h3
    rw [hother l hU] at h1
    obtain ⟨v', hv', hok⟩ := m.hps l he s h1
    have := hρ l v' hv'
    rw [h2] at this
    injection this with this
    subst this
    exact ⟨h1, hv', h3.back hok hρ⟩
  refine ⟨by rw [hn]; exact m.size, m.dfr.keep (fun D hD => hkeep D (Array.getElem?_eq_some_iff.1 hD).1 (fun l he s v _ g1 g2 g3 => ?_)), fun t => by rw [htm]; exact (m.tms t).mono hρ e, ?_, ?_, fun k hk => Nat.lt_of_lt_of_le (m.x0 k hk) hsz, m.bk, ?_, ?_, m.glb.evo e, hdom, hstamp⟩
  · obtain ⟨v2, hv2, hok⟩ := m.hps l he s g1
    rw [g2] at hv2; injection hv2 with hv2; subst hv2
    obtain ⟨cs, t, fr, hc⟩ := hok.cells g3
    rw [hD] at hc; cases hc
  · intro l he s h1
    by_cases hU : U l
    · exact hnew e l he s hU h1
    · rw [hother l hU] at h1
      obtain ⟨v, hv, hok⟩ := m.hps l he s h1
      refine ⟨v, hρ l v hv, hok.mono hρ e (fun k hk => hkeep k (hok.lt hk).2 ?_)⟩
      intro l' he' s' v' hU' g1 g2 g3
      exact hU ((m.dis l l' he he' s s' v v' k h1 g1 hv g2 hk g3) ▸ hU')
  · intro l l' he he' s s' v v' k h1 h1' h2 h2' h3 h3'
    by_cases hU : U l <;> by_cases hU' : U l'
    · exact hdis l l' he he' s s' v v' k hU hU' h1 h1' h2 h2' h3 h3'
    · obtain ⟨g1, g2, h3'⟩ := old l' he' s' v' k hU' h1' h2' h3'
      have hlt : k < W.heap.size := by
        obtain ⟨v2, hv2, hok⟩ := m.hps l' he' s' g1
        rw [g2] at hv2; injection hv2 with hv2; subst hv2
        exact (hok.lt h3').2
      rcases (hblk l he s v k hU h1 h2 h3).2 with h | ⟨l2, he2, s2, v2, hU2, k1, k2, k3⟩
      · omega
      · exact absurd ((m.dis l' l2 he' he2 s' s2 v' v2 k g1 k1 g2 k2 h3' k3) ▸ hU2) hU'
    · obtain ⟨g1, g2, h3⟩ := old l he s v k hU h1 h2 h3
      have hlt : k < W.heap.size := by
        obtain ⟨v2, hv2, hok⟩ := m.hps l he s g1
        rw [g2] at hv2; injection hv2 with hv2; subst hv2
        exact (hok.lt h3).2
      rcases (hblk l' he' s' v' k hU' h1' h2' h3').2 with h | ⟨l2, he2, s2, v2, hU2, k1, k2, k3⟩
      · omega
      · exact absurd ((m.dis l l2 he he2 s s2 v v2 k g1 k1 g2 k2 h3 k3) ▸ hU2) hU
    · obtain ⟨g1, g2, h3⟩ := old l he s v k hU h1 h2 h3
      obtain ⟨g1', g2', h3'⟩ := old l' he' s' v' k hU' h1' h2' h3'
      exact m.dis l l' he he' s s' v v' k g1 g1' g2 g2' h3 h3'
  · refine ⟨hos.trans m.bel.os, htape.trans m.bel.tape, hout.trans m.bel.output, Nat.le_trans m.bel.size hsz, fun k hk => (hkeep k (Nat.lt_of_lt_of_le (m.bk k hk) m.bel.size) ?_).trans (m.bel.block k hk)⟩
    intro l he s v hU g1 g2 g3
    exact (m.nb l he s v k g1 g2 g3).1 (hnl l he s hU g1) hk
  · intro l he s v k h1 h2 h3
    by_cases hU : U l
    · rcases (hblk l he s v k hU h1 h2 h3).2 with h | ⟨l', he', s', v', hU', g1, g2, g3⟩
      · refine ⟨fun _ hB => ?_, fun hX => ?_⟩
        · have := Nat.lt_of_lt_of_le (m.bk k hB) m.bel.size
          omega
        · have := m.x0 k hX
          omega
      · have := m.nb l' he' s' v' k g1 g2 g3
        exact ⟨fun _ => this.1 (hnl l' he' s' (by assumption) g1), this.2⟩
    · obtain ⟨g1, g2, h3⟩ := old l he s v k hU h1 h2 h3
      exact m.nb l he s v k g1 g2 h3

theorem Mt.below (m : Mt P glb Bk X0 w0 st ρ a W) (hb : Below W.heap.size W W') : Mt P glb Bk X0 w0 st ρ a W' :=
  m.gen (fun _ => False) (fun _ _ _ h => h.elim) rfl rfl (fun _ _ => rfl) ρ.le_refl m.dom m.stamp hb.os hb.tape hb.output hb.size (fun k hk _ => hb.block k hk) (fun _ _ _ _ _ h => h.elim) (fun _ _ _ _ h => h.elim) (fun _ _ _ _ _ _ _ _ _ h => h.elim)

theorem Mt.evoBelow (m : Mt P glb Bk X0 w0 st ρ a W) (hb : Below W.heap.size W W') : Evo (Xs st ρ X0) W (Xs st ρ X0) W' := Evo.below m.Xlt hb

theorem Mt.put (m : Mt P glb Bk X0 w0 st ρ a W) (dst : Option Nat) (sv : SV) (v : Value) (hd : dstOK st.n dst = true) (hv : RepV P ρ (Xs st ρ X0) W sv v) : Mt P glb Bk X0 w0 (st.put dst sv) ρ (a.put dst v) W := by
  cases dst with
  | none => exact m
  | some d =>
    have hlt : d < a.tmps.size := by rw [m.size]; simpa [dstOK, Nat.blt_eq] using hd
    refine ⟨by simp [St.put, Act.put, m.size], (by simpa [Act.put] using m.dfr), fun t => ?_, m.hps, m.dis, m.x0, m.bk, m.bel, m.nb, m.glb, m.dom, m.stamp⟩
    show RepV P ρ (Xs st ρ X0) W (updf st.tm d sv t) ((a.tmps.setIfInBounds d v).getD t undef)
    unfold updf
    by_cases h : t = d
    · subst h
      simp only [Nat.beq_refl, cond_true]
      have : (a.tmps.setIfInBounds t v).getD t undef = v := by simp [Array.getD_eq_getD_getElem?, hlt]
      rw [this]
      exact hv
    · have hb : Nat.beq t d = false := by
        cases hq : Nat.beq t d with
        | false => rfl
        | true => exact absurd (Nat.eq_of_beq_eq_true hq) h
      rw [hb, cond_false]
      have : (a.tmps.setIfInBounds d v).getD t undef = a.tmps.getD t undef := by simp [Array.getD_eq_getD_getElem?, Ne.symm h]
      rw [this]
      exact m.tms t
end
end Go.GX
set_option linter.unusedVariables false
namespace Go.GX
open Go.RowKit Go.Shelf Go.Proofs

section
variable (P : Program)

def frX (fresh : Bool) (X : Nat → Prop) (W : World) (k : Nat) : Prop :=
  match fresh with
  | true => k < W.heap.size
  | false => X k

theorem Post.weak {R : Kd} {fr : Bool} {X : Nat → Prop} {W : World} {Q : R.T → Prop} (hX : ∀ k, X k → k < W.heap.size) {e : Ending} {w' : World} (h : Post (R.sem P) (frX fr X W) W Q e w') : Post (R.sem P) X W Q e w' := by
  cases fr with
  | false => exact h
  | true =>
    obtain ⟨r, v, h1, h2, h3, h4⟩ := h
    exact ⟨r, v, h1, (Kd.stands P R).ret (Evo.mono (fun k hk => Nat.lt_of_lt_of_le (hX k hk) h3.size) (fun k hk => hX k hk)) h2, h3, h4⟩

def MkOK (f : FuncId) (ty : TypeId) (g : FuncId) : Prop :=
  Enters P f ∧ ∀ (W : World) (v : Value), Calls P f #[v] W fun e w' => ∃ b, e = .returned (.func (.func g) #[] #[.pointer (some ⟨b, 0, none⟩)]) ∧ W.heap.size ≤ b ∧ w'.heap[b]? = some (.cells v.cells ty (0, 0)) ∧ Below W.heap.size W w'

def slOwn (w' : World) (e : TypeId) : (K : Kd) → List K.T → Value → List Nat → Prop
  | .sl e1 K1, xs, v, fp => ∃ us : List Value, MatOK P w' e e1 K1 xs none us v ∧ fp = v.ownBlock.toList ++ us.flatMap fun u => u.ownBlock.toList
  | .agg (.sl e1 K1), xs, v, fp => ∃ us : List Value, MatOK P w' e e1 K1 xs none us v ∧ fp = v.ownBlock.toList ++ us.flatMap fun u => u.ownBlock.toList
  | K, xs, v, fp => InRow P w' e K xs v ∧ K.flat = true ∧ 0 < K.n ∧ fp = v.ownBlock.toList

def flOwn (w' : World) : (K : Kd) → K.T → List Value → List Nat → Prop
  | .pair A B, x, cs, fp => ∃ c1 c2 f1 f2, cs = c1 ++ c2 ∧ fp = f1 ++ f2 ∧ flOwn w' A x.1 c1 f1 ∧ flOwn w' B x.2 c2 f2
  | .agg K, x, cs, fp => flOwn w' K x cs fp
  | .sl e K, xs, cs, fp => ∃ v, cs = [v] ∧ (∃ A n c, v = .slice A n c) ∧ slOwn P w' e K xs v fp
  | K, x, cs, fp => (K.sem P).cells (fun _ => False) w' x cs ∧ fp = []

def valOwn (w' : World) (K : Kd) (x : K.T) (v : Value) (fp : List Nat) : Prop :=
  match K.isAgg with
  | true => ∃ cs : List Value, v = .agg cs.toArray ∧ flOwn P w' K x cs fp
  | false => flOwn P w' K x [v] fp

def valsOwn (w' : World) : (K : Kd) → K.T → List Value → List Nat → Prop
  | .pair A B, x, vs, fp => ∃ v vs' f1 f2, vs = v :: vs' ∧ fp = f1 ++ f2 ∧ valOwn P w' A x.1 v f1 ∧ valsOwn w' B x.2 vs' f2
  | .unit, _, vs, fp => vs = [] ∧ fp = []
  | K, x, vs, fp => ∃ v, vs = [v] ∧ valOwn P w' K x v fp

def retOwn (w' : World) (R : Kd) (r : R.T) (v : Value) (fp : List Nat) : Prop :=
  match R, r with
  | .pair A B, r => ∃ vs : List Value, v = .tuple vs.toArray ∧ valsOwn P w' (.pair A B) r vs fp
  | .unit, _ => v = .tuple #[] ∧ fp = []
  | R, r => valOwn P w' R r v fp

def PostO (R : Kd) (w : World) (Q : R.T → Prop) : Ending → World → Prop :=
  fun e w' => ∃ r v fp, e = .returned v ∧ retOwn P w' R r v fp ∧ fp.Nodup ∧ (∀ k, k ∈ fp → w.heap.size ≤ k) ∧ Below w.heap.size w w' ∧ Q r

def PostM (own fresh : Bool) (R : Kd) (X : Nat → Prop) (w : World) (Q : R.T → Prop) : Ending → World → Prop :=
  match own with
  | true => PostO P R w Q
  | false => Post (R.sem P) (frX fresh X w) w Q

def InlOK (f : FuncId) : Prop :=
  Enters P f ∧ ∀ (W : World) (v : Value), v.oneCell' = true → Calls P f #[v] W fun e w' => e = .returned (.agg #[v]) ∧ Below W.heap.size W w'

def ClipOK (f : FuncId) : Prop :=
  Enters P f ∧ ∀ (W : World) (A : Option Addr) (n c : Nat), n ≤ c → Calls P f #[.slice A n c] W fun e w' => (∃ A', e = .returned (.slice A' n n) ∧ (0 < n → A' = A)) ∧ Below W.heap.size W w'

structure CallsOK (glb : Nat → Option GV) (f : FuncId) (c : Ct) : Prop where
  enters : Enters P f
  calls : ∀ (X : Nat → Prop) (W : World) (x : c.A.T) (y : c.C.T) (vs cs : List Value), (∀ k, X k → k < W.heap.size) → GlbOK P glb X W → (c.A.sem P).vals X W x vs → (c.C.sem P).vals X W y cs →
    ∀ Q : c.R.T → Prop, c.wp x y Q → Calls P f (vs ++ cs).toArray W (PostM P c.own c.fresh c.R X W Q)

structure CtOK (glb : Nat → Option GV) (S : Stat) : Prop where
  ct : ∀ f c, S.ct f = some c → CallsOK P glb f c
  mkr : ∀ f p, S.mkr f = some p → MkOK P f p.1 p.2
  inl : ∀ f, S.inl f = true → InlOK P f
  clip : ∀ f, S.clip f = true → ClipOK P f

structure StatOK (S : Stat) : Prop where
  mixed : P.follows .mixedOrders = true
  ty : ∀ t i, S.ty t = some i → i.kd.arg = true ∧ (∃ inf z, P.info? t = some inf ∧ inf.size = i.kd.n ∧ inf.bytes = i.bytes ∧ inf.zero = some z ∧ z.cells.toList = i.kd.zv) ∧ ∀ w, (Go.isAgg t).run P w = .ok i.kd.isAgg w
  sl : ∀ t e, S.sl t = some e → P.underlying t = some (.slice e)
  eq : ∀ t n, S.eq t = some n → ∃ fs, P.underlying t = some (.struct fs) ∧ fs.size = n ∧ P.stoodInHeld t = false ∧ P.eqGuardType P.depth t = false ∧ ∀ (i : Nat) fd, fs[i]? = some fd → fd.name ≠ "_" ∧ fd.offset = i ∧ ∃ k, P.underlying fd.type = some (.int k)
  int : ∀ t k b, S.ty t = some ⟨.int k, b⟩ → P.underlying t = some (.int k)
  dfd : ∀ t i, S.ty t = some i → (P.underlying t).isSome = true
  bool : ∀ t b, S.ty t = some ⟨.bool, b⟩ → P.underlying t = some .bool
  fld : ∀ t f p, S.fld t f = some p → ∃ fs fd, P.underlying t = some (.struct fs) ∧ fs[f]? = some fd ∧ fd.offset = p.1 ∧ fd.type = p.2 ∧ ∀ fd', fd' ∈ fs → (P.info? fd'.type).isSome = true
  arr : ∀ t p, S.arr t = some p → P.underlying t = some (.array p.1 p.2)
end

def Xl (st : St) (ρ : Lab) (X0 : Nat → Prop) (Z : Nat → Bool) (k : Nat) : Prop :=
  X0 k ∨ ∃ l he s v, Z l = false ∧ st.hp l = some (he, s) ∧ ρ l = some v ∧ OwnB ρ he v k

section
variable {P : Program} {glb : Nat → Option GV} {Bk X0 : Nat → Prop} {w0 : World} {st st' : St} {ρ ρ' : Lab} {a : Act} {W W' : World} {S : Stat} {Z : Nat → Bool}

theorem Xl.sub {k : Nat} (h : Xl st ρ X0 Z k) : Xs st ρ X0 k := by
  rcases h with h | ⟨l, he, s, v, _, h1, h2, h3⟩
  · exact .inl h
  · exact .inr ⟨l, he, s, v, h1, h2, h3⟩

theorem Mt.evoZ (m : Mt P glb Bk X0 w0 st ρ a W) (Z : Nat → Bool) : Evo (Xs st ρ X0) W (Xl st ρ X0 Z) W :=
  Evo.mono (fun k hk => m.Xlt k hk.sub) (fun k hk => hk.sub)

theorem Mt.notXl (m : Mt P glb Bk X0 w0 st ρ a W) {l : Nat} {he : HE} {s : Nat} {v : Value} {k : Nat} (h1 : st.hp l = some (he, s)) (h2 : ρ l = some v) (h3 : OwnB ρ he v k) (hZ : Z l = true) : ¬ Xl st ρ X0 Z k := by
  rintro (h | ⟨l', he', s', v', hz, g1, g2, g3⟩)
  · exact (m.nb l he s v k h1 h2 h3).2 h
  · have := m.dis l l' he he' s s' v v' k h1 g1 h2 g2 h3 g3
    subst this
    rw [hZ] at hz
    cases hz

theorem look_some {l : Nat} {h : HE} (hl : st.look l = some h) : ∃ s, st.hp l = some (h, s) := by
  unfold St.look at hl
  cases hh : st.hp l with
  | none => rw [hh] at hl; cases hl
  | some p => rw [hh] at hl; obtain ⟨h', s⟩ := p; simp at hl; subst hl; exact ⟨s, rfl⟩

theorem Mt.rowVal (m : Mt P glb Bk X0 w0 st ρ a W) {l : Nat} {nn : Bool} {e e' : TypeId} {K : Kd} {xs : List K.T} {s : Nat} {v : Value} (h1 : st.hp l = some (.row nn e K xs, s)) (h2 : ρ l = some v) (hZ : Z l = true) :
    ((Kd.sl e' K).sem P).val (Xl st ρ X0 Z) W xs v ∧ (nn = true → ∃ a n c, v = .slice (some a) n c) := by
  obtain ⟨v', hv', hok⟩ := m.hps l _ s h1
  rw [h2] at hv'; injection hv' with hv'; subst hv'
  obtain ⟨h0, ⟨flat, ho, hc⟩, hnn⟩ := hok
  refine ⟨?_, hnn⟩
  obtain ⟨g1, g2⟩ := ho
  rcases g2 with ⟨rfl, hx⟩ | ⟨g, cap, cur, rfl, k1, k2, k3, k4, k5, k6⟩
  · obtain rfl : xs = [] := List.eq_nil_of_length_eq_zero hx
    exact ⟨none, 0, rfl, Nat.le_refl _, by unfold maxLen; omega, fun h => absurd rfl h⟩
  · refine ⟨some ⟨g, 0, none⟩, cap, rfl, k3, k4, fun _ => ⟨_, rfl, m.notXl h1 h2 (.inl rfl) hZ, (Array.getElem?_eq_some_iff.1 k2).1, fun j x hj => ?_⟩⟩
    refine ⟨_, (Kd.stands P K).cells (m.evoZ Z) (hc j x hj), fun i u hu => ?_⟩
    rw [List.getElem?_take] at hu
    split at hu
    · rw [List.getElem?_drop] at hu
      have ho' : W.ownsRow 0 e K.n (.slice (some ⟨g, 0, none⟩) xs.length cap) xs.length flat := ⟨g1, .inr ⟨g, cap, cur, rfl, k1, k2, k3, k4, k5, k6⟩⟩
      exact ho'.cells rfl (j * K.n + i) u hu
    · cases hu

theorem Mt.lnVal (m : Mt P glb Bk X0 w0 st ρ a W) {l : Nat} {e e' : TypeId} {K : Kd} {xs : List K.T} {s : Nat} {v : Value} (h1 : st.hp l = some (.ln e K xs, s)) (h2 : ρ l = some v) (hZ : Z l = true) :
    ((Kd.sl e' K).sem P).val (Xl st ρ X0 Z) W xs v := by
  obtain ⟨v', hv', hok⟩ := m.hps l _ s h1
  rw [h2] at hv'; injection hv' with hv'; subst hv'
  obtain ⟨hf, A, c, rfl, g1, g2, g3⟩ := hok
  refine ⟨A, c, rfl, g1, g2, fun hne => ?_⟩
  cases xs with
  | nil => exact absurd rfl hne
  | cons x xs =>
    obtain ⟨ad, rfl, ⟨cs, t, fr, hc⟩, hg⟩ := g3 (by simp)
    refine ⟨ad, rfl, m.notXl h1 h2 (.inl rfl) hZ, (Array.getElem?_eq_some_iff.1 hc).1, fun j y hy => ?_⟩
    obtain ⟨ecs, k1, k2⟩ := hg j y hy
    exact ⟨ecs, Kd.flat_cells P K hf k1, k2⟩

theorem elX_cells {X : Nat → Prop} {ag : Bool} {e1 : TypeId} {K1 : Kd} {x : List K1.T} {v : Value} (h : ((Kd.sl e1 K1).sem P).val X W x v) : ((elK ag e1 K1).sem P).cells X W (elX ag e1 K1 x) [v] := by
  have : ((Kd.sl e1 K1).sem P).cells X W x [v] := by
    have h1 : _ := h
    obtain ⟨A, c, hv, _⟩ := h1
    exact ⟨v, rfl, by rw [hv]; rfl, h⟩
  cases ag <;> exact this

theorem elK_n {ag : Bool} {e1 : TypeId} {K1 : Kd} : (elK ag e1 K1).n = 1 := by cases ag <;> rfl

theorem inRow_val {X : Nat → Prop} {e1 e' : TypeId} {K1 : Kd} {xr : List K1.T} {u : Value} (hf : K1.flat = true) (h : InRow P W e1 K1 xr u) (hX : ∀ k, u.ownBlock = some k → ¬ X k) : ((Kd.sl e' K1).sem P).val X W xr u := by
  obtain ⟨fl, ho, hc⟩ := h
  obtain ⟨g1, g2⟩ := ho
  rcases g2 with ⟨rfl, hx⟩ | ⟨g, cap, cur, rfl, k1, k2, k3, k4, k5, k6⟩
  · obtain rfl : xr = [] := List.eq_nil_of_length_eq_zero hx
    exact ⟨none, 0, rfl, Nat.le_refl _, by unfold maxLen; omega, fun h => absurd rfl h⟩
  · refine ⟨some ⟨g, 0, none⟩, cap, rfl, k3, k4, fun _ => ⟨_, rfl, hX g rfl, (Array.getElem?_eq_some_iff.1 k2).1, fun j x hj => ?_⟩⟩
    refine ⟨_, Kd.flat_cells P K1 hf (hc j x hj), fun i u hu => ?_⟩
    rw [List.getElem?_take] at hu
    split at hu
    · rw [List.getElem?_drop] at hu
      have ho' : W.ownsRow 0 e1 K1.n (.slice (some ⟨g, 0, none⟩) xr.length cap) xr.length fl := ⟨g1, .inr ⟨g, cap, cur, rfl, k1, k2, k3, k4, k5, k6⟩⟩
      exact ho'.cells rfl (j * K1.n + i) u hu
    · cases hu

theorem mat_val {X : Nat → Prop} {e e' : TypeId} {ag : Bool} {e1 : TypeId} {K1 : Kd} {xs : List (List K1.T)} {us : List Value} {v : Value} (m : MatOK P W e e1 K1 xs none us v)
    (h0 : ∀ k, v.ownBlock = some k → ¬ X k) (h1 : ∀ (j : Nat) u k, us[j]? = some u → u.ownBlock = some k → ¬ X k) : ((Kd.sl e' (elK ag e1 K1)).sem P).val X W (xs.map (elX ag e1 K1)) v := by
  obtain ⟨hd, ⟨g1, g2⟩, hh⟩ := m.out
  rcases g2 with ⟨rfl, hx⟩ | ⟨g, cap, cur, rfl, k1, k2, k3, k4, k5, k6⟩
  · obtain rfl : xs = [] := List.eq_nil_of_length_eq_zero hx
    exact ⟨none, 0, rfl, Nat.le_refl _, by unfold maxLen; omega, fun h => absurd rfl h⟩
  · refine ⟨some ⟨g, 0, none⟩, cap, by simp, by simpa using k3, k4, fun _ => ⟨_, rfl, h0 g rfl, (Array.getElem?_eq_some_iff.1 k2).1, fun j x hj => ?_⟩⟩
    rw [List.getElem?_map] at hj
    cases hxj : xs[j]? with
    | none => rw [hxj] at hj; cases hj
    | some xr =>
      rw [hxj] at hj
      cases hj
      have hlt : j < us.length := by rw [m.len]; exact (List.getElem?_eq_some_iff.1 hxj).1
      have huj : us[j]? = some us[j] := List.getElem?_eq_getElem hlt
      refine ⟨[us[j]], elX_cells (inRow_val m.flat (m.inr j _ xr huj hxj rfl) (fun k hk => h1 j _ k huj hk)), fun i u hu => ?_⟩
      cases i with
      | succ i => simp at hu
      | zero =>
        simp only [List.getElem?_cons_zero, Option.some.injEq] at hu
        subst hu
        rw [elK_n]
        have ho' : W.ownsRow 0 e 1 (.slice (some ⟨g, 0, none⟩) xs.length cap) xs.length hd := ⟨g1, .inr ⟨g, cap, cur, rfl, k1, k2, k3, k4, k5, k6⟩⟩
        have := ho'.cells rfl j _ (hh j _ huj rfl)
        simpa using this

theorem Mt.matVal (m : Mt P glb Bk X0 w0 st ρ a W) {l : Nat} {nn : Bool} {e e' : TypeId} {ag : Bool} {e1 : TypeId} {K1 : Kd} {xs : List (List K1.T)} {vl s : Nat} {v : Value} (h1 : st.hp l = some (.mat nn e ag e1 K1 xs none vl, s)) (h2 : ρ l = some v) (hZ : Z l = true) :
    ((Kd.sl e' (elK ag e1 K1)).sem P).val (Xl st ρ X0 Z) W (xs.map (elX ag e1 K1)) v ∧ (nn = true → ∃ a n c, v = .slice (some a) n c) := by
  obtain ⟨v', hv', hok⟩ := m.hps l _ s h1
  rw [h2] at hv'; injection hv' with hv'; subst hv'
  obtain ⟨⟨us, hu, mo⟩, hnn⟩ := hok
  exact ⟨mat_val mo (fun k hk => m.notXl h1 h2 ((mat_own hu).2 (.inl hk)) hZ) (fun j u k hj hk => m.notXl h1 h2 ((mat_own hu).2 (.inr ⟨j, u, rfl, hj, hk⟩)) hZ), hnn⟩

theorem tuple_inj {us us' : List Value} (h : (some (Value.tuple us.toArray) : Option Value) = some (.tuple us'.toArray)) : us = us' := by
  injection h with h; injection h with h
  simpa using h

theorem Mt.innVal (m : Mt P glb Bk X0 w0 st ρ a W) {l : Nat} {nn : Bool} {e e' : TypeId} {ag : Bool} {e1 : TypeId} {K1 : Kd} {xs : List (List K1.T)} {vl s : Nat} {us : List Value} {j : Nat} {u : Value} (h1 : st.hp l = some (.mat nn e ag e1 K1 xs none vl, s)) (hu : ρ vl = some (.tuple us.toArray)) (hj : us[j]? = some u) (hZ : Z l = true) :
    ((Kd.sl e' K1).sem P).val (Xl st ρ X0 Z) W (xs.getD j []) u := by
  obtain ⟨v, hv, hok⟩ := m.hps l _ s h1
  obtain ⟨⟨us', hu', mo⟩, hnn⟩ := hok
  rw [hu] at hu'
  obtain rfl := tuple_inj hu'
  have hlt : j < xs.length := by rw [← mo.len]; exact (List.getElem?_eq_some_iff.1 hj).1
  have hxj : xs[j]? = some (xs.getD j []) := by rw [List.getD_eq_getElem?_getD, List.getElem?_eq_getElem hlt]; rfl
  exact inRow_val mo.flat (mo.inr j u _ hj hxj rfl) (fun k hk => m.notXl h1 hv ((mat_own hu).2 (.inr ⟨j, u, rfl, hj, hk⟩)) hZ)

theorem cells_of_val {K : Kd} {X : Nat → Prop} {x : K.T} {v : Value} (h : (K.sem P).val X W x v) (ha : K.isAgg = false) : (K.sem P).cells X W x [v] := by
  have h1 := (RepV.of_val (ρ := fun _ => none) K h).2
  rw [ha] at h1
  cases K <;> first | exact ⟨v, rfl, h1, h⟩ | exact h.elim | simp [Kd.isAgg] at ha

theorem val_of_cells {K : Kd} {X : Nat → Prop} {x : K.T} {v : Value} (h : (K.sem P).cells X W x [v]) (ha : K.isAgg = false) (hb : K.arg = true) : (K.sem P).val X W x v := by
  cases K <;> first | simp [Kd.arg] at hb; done | simp [Kd.isAgg] at ha; done | (obtain ⟨v', hv, _, hr⟩ := h; cases hv; exact hr)

def D1ok (P : Program) (ρ : Lab) (X Xz : Nat → Prop) (W : World) (Z : Nat → Bool) (d1 : (K : Kd) → SC → Option (K.T × List Nat)) : Prop :=
  ∀ (K : Kd) c x ls v, d1 K c = some (x, ls) → RepC P ρ X W c v → (∀ l, l ∈ ls → Z l = true) → (K.sem P).cells Xz W x [v]

theorem decs_ok {X Xz : Nat → Prop} {d1 : (K : Kd) → SC → Option (K.T × List Nat)} (H : D1ok P ρ X Xz W Z d1) : ∀ (K : Kd) (cs : List SC) (x : K.T) (r : List SC) (ls : List Nat) (vs : List Value),
    decs d1 K cs = some (x, r, ls) → RepCs P ρ X W cs vs → (∀ l, l ∈ ls → Z l = true) → ∃ v1 v2, vs = v1 ++ v2 ∧ (K.sem P).cells Xz W x v1 ∧ RepCs P ρ X W r v2 := by
  have one : ∀ (K : Kd) (c : SC) (cs : List SC) (x : K.T) (r : List SC) (ls : List Nat) (vs : List Value), decOne (d1 K) (c :: cs) = some (x, r, ls) → RepCs P ρ X W (c :: cs) vs → (∀ l, l ∈ ls → Z l = true) →
      ∃ v1 v2, vs = v1 ++ v2 ∧ (K.sem P).cells Xz W x v1 ∧ RepCs P ρ X W r v2 := by
    intro K c cs x r ls vs h hv hz
    obtain ⟨v, vs', rfl, h1, h2⟩ := hv
    simp only [decOne] at h
    cases hd : d1 K c with
    | none => rw [hd] at h; cases h
    | some p =>
      obtain ⟨y, l⟩ := p
      rw [hd] at h
      cases h
      exact ⟨[v], vs', rfl, H K c _ _ v hd h1 hz, h2⟩
  intro K
  induction K with
  | pair A B ihA ihB =>
    intro cs x r ls vs h hv hz
    simp only [decs] at h
    cases h1 : decs d1 A cs with
    | none => rw [h1] at h; cases h
    | some p =>
      obtain ⟨x1, r1, l1⟩ := p
      rw [h1] at h
      simp only at h
      cases h2 : decs d1 B r1 with
      | none => rw [h2] at h; cases h
      | some q =>
        obtain ⟨x2, r2, l2⟩ := q
        rw [h2] at h
        cases h
        obtain ⟨v1, v2, rfl, c1, c2⟩ := ihA cs x1 r1 l1 vs h1 hv (fun l hl => hz l (List.mem_append.2 (.inl hl)))
        obtain ⟨v3, v4, rfl, c3, c4⟩ := ihB r1 _ _ _ v2 h2 c2 (fun l hl => hz l (List.mem_append.2 (.inr hl)))
        exact ⟨v1 ++ v3, v4, by simp, ⟨v1, v3, rfl, c1, c3⟩, c4⟩
  | unit =>
    intro cs x r ls vs h hv hz
    cases h
    exact ⟨[], vs, rfl, rfl, hv⟩
  | agg K ih =>
    intro cs x r ls vs h hv hz
    exact ih cs x r ls vs h hv hz
  | int k => intro cs x r ls vs h hv hz; cases cs with | nil => cases h | cons c cs => exact one _ c cs x r ls vs h hv hz
  | bool => intro cs x r ls vs h hv hz; cases cs with | nil => cases h | cons c cs => exact one _ c cs x r ls vs h hv hz
  | str => intro cs x r ls vs h hv hz; cases cs with | nil => cases h | cons c cs => exact one _ c cs x r ls vs h hv hz
  | sl e K ih => intro cs x r ls vs h hv hz; cases cs with | nil => cases h | cons c cs => exact one _ c cs x r ls vs h hv hz
  | nsl e K ih => intro cs x r ls vs h hv hz; cases cs with | nil => cases h | cons c cs => exact one _ c cs x r ls vs h hv hz
  | fn A B ihA ihB => intro cs x r ls vs h hv hz; cases cs with | nil => cases h | cons c cs => exact one _ c cs x r ls vs h hv hz
  | ptr t K ih => intro cs x r ls vs h hv hz; cases cs with | nil => cases h | cons c cs => exact one _ c cs x r ls vs h hv hz
  | seq A ih => intro cs x r ls vs h hv hz; cases cs with | nil => cases h | cons c cs => exact one _ c cs x r ls vs h hv hz

theorem RepCap.sc {X : Nat → Prop} : ∀ {c v}, RepCap P ρ X W c v → RepC P ρ X W c.sc v
  | .l m, v, ⟨h, b, hb⟩ => ⟨b, by rw [h, hb], hb⟩
  | .d t K x, v, h => cells_of_val h rfl

theorem capsD_ok {X Xz : Nat → Prop} {d1 : (K : Kd) → SC → Option (K.T × List Nat)} (H : D1ok P ρ X Xz W Z d1) : ∀ (K : Kd) (cs : List Cap) (x : K.T) (ls : List Nat) (vs : List Value),
    capsD d1 K cs = some (x, ls) → RepCaps P ρ X W cs vs → (∀ l, l ∈ ls → Z l = true) → (K.sem P).vals Xz W x vs
  | .unit, [], x, ls, vs, h, hv, hz => hv
  | .pair (.ptr t A) B, c :: r, x, ls, vs, h, ⟨v, vs', hvs, h1, h2⟩, hz => by
    simp only [capsD] at h
    cases hd : d1 (.ptr t A) c.sc with
    | none => rw [hd] at h; cases h
    | some p =>
      obtain ⟨x1, l1⟩ := p
      rw [hd] at h
      simp only at h
      cases hc : capsD d1 B r with
      | none => rw [hc] at h; cases h
      | some q =>
        obtain ⟨x2, l2⟩ := q
        rw [hc] at h
        cases h
        exact ⟨v, vs', hvs, val_of_cells (H _ _ _ _ _ hd h1.sc (fun l hl => hz l (List.mem_append.2 (.inl hl)))) rfl rfl, capsD_ok H B r x2 l2 vs' hc h2 (fun l hl => hz l (List.mem_append.2 (.inr hl)))⟩

def RepVs (P : Program) (ρ : Lab) (X : Nat → Prop) (W : World) : List SV → List Value → Prop
  | [], vs => vs = []
  | s :: r, vs => ∃ v vs', vs = v :: vs' ∧ RepV P ρ X W s v ∧ RepVs P ρ X W r vs'

theorem argVal {X Xz : Nat → Prop} {d1 : (K : Kd) → SC → Option (K.T × List Nat)} (H : D1ok P ρ X Xz W Z d1) {K : Kd} {a : Bool} {cs : List SC} {x : K.T} {ls : List Nat} {v : Value}
    (hk : (a == K.isAgg && K.arg) = true) (hd : decs d1 K cs = some (x, [], ls)) (hv : RepV P ρ X W (.mk a cs) v) (hz : ∀ l, l ∈ ls → Z l = true) : (K.sem P).val Xz W x v := by
  simp only [Bool.and_eq_true, beq_iff_eq] at hk
  obtain ⟨ha, harg⟩ := hk
  cases a with
  | false =>
    obtain ⟨c, rfl, hc⟩ := hv
    obtain ⟨v1, v2, he, h1, h2⟩ := decs_ok H K [c] x [] ls [v] hd ⟨v, [], rfl, hc, rfl⟩ hz
    have : v2 = [] := h2
    subst this
    rw [List.append_nil] at he
    subst he
    exact val_of_cells h1 ha.symm harg
  | true =>
    obtain ⟨vs, rfl, hc⟩ := hv
    obtain ⟨v1, v2, he, h1, h2⟩ := decs_ok H K cs x [] ls vs hd hc hz
    have : v2 = [] := h2
    subst this
    rw [List.append_nil] at he
    subst he
    cases K with
    | agg K => exact ⟨vs, rfl, h1⟩
    | _ => simp [Kd.isAgg] at ha

theorem vals_one {K : Kd} {X : Nat → Prop} {x : K.T} {v : Value} (h : (K.sem P).val X W x v) (hb : K.arg = true) : (K.sem P).vals X W x [v] := by
  cases K with
  | pair A B => simp [Kd.arg] at hb
  | unit => simp [Kd.arg] at hb
  | agg K => obtain ⟨cs, rfl, h1⟩ := h; exact ⟨cs, rfl, h1⟩
  | _ => exact ⟨v, rfl, h⟩

theorem decArgs_ok {X Xz : Nat → Prop} {d1 : (K : Kd) → SC → Option (K.T × List Nat)} (H : D1ok P ρ X Xz W Z d1) : ∀ (K : Kd) (ss : List SV) (x : K.T) (ls : List Nat) (vs : List Value),
    decArgs d1 K ss = some (x, ls) → RepVs P ρ X W ss vs → (∀ l, l ∈ ls → Z l = true) → (K.sem P).vals Xz W x vs := by
  have single : ∀ (K : Kd) (ss : List SV) (x : K.T) (ls : List Nat) (vs : List Value),
      decArg d1 K ss = some (x, ls) → RepVs P ρ X W ss vs → (∀ l, l ∈ ls → Z l = true) → (K.sem P).vals Xz W x vs := by
    intro K ss x ls vs h hv hz
    unfold decArg at h
    split at h
    · rename_i a cs
      obtain ⟨v, vs', rfl, h1, h2⟩ := hv
      have : vs' = [] := h2
      subst this
      split at h
      · rename_i hk
        split at h
        · rename_i y l hd
          cases h
          refine vals_one (argVal H hk hd h1 hz) ?_
          simp only [Bool.and_eq_true] at hk
          exact hk.2
        · cases h
      · cases h
    · cases h
  intro K
  induction K with
  | unit =>
    intro ss x ls vs h hv hz
    cases ss with
    | nil => exact hv
    | cons s r => cases s <;> cases h
  | pair A B ihA ihB =>
    intro ss x ls vs h hv hz
    cases ss with
    | nil => cases h
    | cons s r =>
      cases s with
      | mk a cs =>
        simp only [decArgs] at h
        split at h
        · rename_i hk
          split at h
          · rename_i y l hd
            cases hr : decArgs d1 B r with
            | none => rw [hr] at h; cases h
            | some q =>
              obtain ⟨y2, l2⟩ := q
              rw [hr] at h
              cases h
              obtain ⟨v, vs', rfl, h1, h2⟩ := hv
              exact ⟨v, vs', rfl, argVal H hk hd h1 (fun l hl => hz l (List.mem_append.2 (.inl hl))), ihB r y2 l2 vs' hr h2 (fun l hl => hz l (List.mem_append.2 (.inr hl)))⟩
          · cases h
        · cases h
      | any => cases h
      | tup l => cases h
  | _ => intro ss x ls vs h hv hz; exact single _ ss x ls vs h hv hz

theorem dec1_ok (m : Mt P glb Bk X0 w0 st ρ a W) (hct : CtOK P glb S) : ∀ n, D1ok P ρ (Xs st ρ X0) (Xl st ρ X0 Z) W Z (dec1 S st.look n) := by
  intro n
  induction n with
  | zero => intro K c x ls v h; cases h
  | succ n ih =>
    intro K c x ls v h hv hz
    have eZ := m.evoZ Z
    cases c with
    | v u => cases h
    | d K' y =>
      simp only [dec1] at h
      split at h
      · rename_i hk
        subst hk
        cases h
        exact (Kd.stands P K').cells eZ hv
      · split at h
        · rename_i e K1
          cases K' with
          | nsl e2 K2 =>
            simp only [asSl] at h
            split at h
            · rename_i hk
              subst hk
              cases h
              have hv2 := (Kd.stands P (.nsl e2 K2)).cells eZ hv
              obtain ⟨v', he, h1, h0, h2⟩ := hv2
              cases he
              refine ⟨v, rfl, h1, ?_⟩
              cases hy : (y : Option (List K2.T)) with
              | none =>
                obtain rfl := h0 hy
                exact ⟨none, 0, rfl, Nat.le_refl _, by unfold maxLen; omega, fun h => absurd rfl h⟩
              | some xs =>
                obtain ⟨A, c, g1, g2, g3, g4, g5⟩ := h2 xs hy
                exact ⟨A, c, g1, g3, g4, g5⟩
            · cases h
          | sl e2 K2 =>
            simp only [asSl] at h
            split at h
            · rename_i hk
              subst hk
              cases h
              obtain ⟨v', he, h1, h2⟩ := (Kd.stands P (.sl e2 K2)).cells eZ hv
              cases he
              exact ⟨v, rfl, h1, h2⟩
            · cases h
          | _ => cases h
        · cases h
    | fr e K' xs =>
      simp only [dec1] at h
      split at h
      · split at h
        · rename_i hk
          subst hk
          cases h
          exact (Kd.stands P (.sl e K')).cells eZ hv.2
        · cases h
      · cases h
    | nl e K' =>
      have hv' : v = .slice none 0 0 := hv
      subst hv'
      simp only [dec1] at h
      split at h
      · cases h
        exact ⟨_, rfl, rfl, none, 0, rfl, Nat.le_refl _, by unfold maxLen; omega, fun h => absurd rfl h⟩
      · cases h
        exact ⟨_, rfl, rfl, fun _ => rfl, fun xs hx => by cases hx⟩
      · cases h
    | own l =>
      obtain ⟨hv1, a1, n1, c1, hv2⟩ := hv
      have key : ∀ (nn : Bool) (e : TypeId) (K' : Kd) (xs : List K'.T), (Z l = true → ∀ e' : TypeId, ((Kd.sl e' K').sem P).val (Xl st ρ X0 Z) W xs v ∧ (nn = true → ∃ a n c, v = .slice (some a) n c)) →
          ownDec l nn K' xs K = some (x, ls) → (K.sem P).cells (Xl st ρ X0 Z) W x [v] := by
        intro nn e K' xs hr h
        cases K with
        | sl e2 K1 =>
          simp only [ownDec] at h
          split at h
          · rename_i hk
            subst hk
            cases h
            exact cells_of_val (hr (hz l (by simp)) e2).1 rfl
          · cases h
        | nsl e2 K1 =>
          simp only [ownDec] at h
          split at h
          · rename_i hk
            subst hk
            split at h
            · rename_i hnn
              cases h
              obtain ⟨hval, hn⟩ := hr (hz l (by simp)) e2
              obtain ⟨a2, n2, c2, hv3⟩ := hn hnn
              have hval2 : ∃ A c, v = .slice A xs.length c ∧ xs.length ≤ c ∧ c ≤ maxLen ∧ RowAt P K' (Xl st ρ X0 Z) W A xs := hval
              refine ⟨v, rfl, by rw [hv3]; rfl, ?_⟩
              show (some xs = none → v = Value.slice none 0 0) ∧ ∀ ys, some xs = some ys → _
              refine ⟨fun hx => (by cases hx), fun ys hy => ?_⟩
              cases hy
              obtain ⟨A, c, g1, g2, g3, g4⟩ := hval2
              refine ⟨A, c, g1, ?_, g2, g3, g4⟩
              rw [hv3] at g1
              injection g1 with g1
              rw [← g1]
              simp
            · cases h
          · cases h
        | _ => cases h
      simp only [dec1] at h
      split at h
      · rename_i nn e K' xs hl
        obtain ⟨s, hs⟩ := look_some hl
        exact key nn e K' xs (fun hZ e' => m.rowVal hs hv1 hZ) h
      · rename_i nn e K' xs hl
        obtain ⟨s, hs⟩ := look_some hl
        refine key nn e K' xs (fun hZ e' => ?_) h
        obtain ⟨v', hv', hok⟩ := m.hps l _ s hs
        rw [hv1] at hv'; injection hv' with hv'; subst hv'
        exact ⟨(Kd.stands P (.sl e' K')).val eZ hok.1, hok.2⟩
      · rename_i e K' xs hl
        obtain ⟨s, hs⟩ := look_some hl
        exact key false e K' xs (fun hZ e' => ⟨m.lnVal hs hv1 hZ, fun h => by cases h⟩) h
      · rename_i nn e ag e1 K1 xs vl hl
        obtain ⟨s, hs⟩ := look_some hl
        exact key nn e (elK ag e1 K1) (xs.map (elX ag e1 K1)) (fun hZ e' => m.matVal hs hv1 hZ) h
      · cases h
    | inn l vl j =>
      obtain ⟨us, hu, hj, ⟨a1, n1, c1, hv2⟩, _⟩ := hv
      simp only [dec1] at h
      split at h
      · rename_i nn e ag e1 K1 xs vl' hl
        obtain ⟨s, hs⟩ := look_some hl
        cases hvl : Nat.beq vl vl' with
        | false => rw [hvl] at h; cases h
        | true =>
          obtain rfl := Nat.eq_of_beq_eq_true hvl
          rw [hvl, cond_true] at h
          cases K with
          | sl e2 K2 =>
            simp only [ownDec] at h
            split at h
            · rename_i hk
              subst hk
              cases h
              exact cells_of_val (m.innVal hs hu hj (hz l (by simp))) rfl
            · cases h
          | nsl e2 K2 =>
            simp only [ownDec] at h
            split at h <;> cases h
          | _ => cases h
      · cases h
    | ptr l off =>
      obtain ⟨b, hρ, hv1⟩ := hv
      cases off with
      | succ off => cases h
      | zero =>
        simp only [dec1] at h
        split at h
        · rename_i own ty cs hl
          split at h
          · rename_i ty' K1
            split at h
            · rename_i hty
              subst hty
              split at h
              · rename_i y lls hd
                cases h
                obtain ⟨s, hs⟩ := look_some hl
                obtain ⟨v', hv', hok⟩ := m.hps l _ s hs
                rw [hρ] at hv'; injection hv' with hv'; subst hv'
                obtain ⟨b', arr, he, hb, hcs, hno, hlo⟩ := hok
                injection he with he; injection he with he; injection he with he
                subst he
                obtain ⟨v1, v2, hvs, hc1, hc2⟩ := decs_ok (Z := Z) ih K1 cs _ [] _ arr.toList hd hcs (fun l' hl' => hz l' (by simp [hl']))
                have : v2 = [] := hc2
                subst this
                rw [List.append_nil] at hvs
                subst hvs
                subst hv1
                refine ⟨_, rfl, rfl, b, arr, rfl, ?_, hb, hc1⟩
                cases own with
                | true => exact m.notXl hs hρ (.inl rfl) (hz l (by simp))
                | false => exact fun hx => hno rfl hx.sub
              · cases h
            · cases h
          · cases h
        · cases h
    | ep l j sz off => cases h
    | iep l vl j i sz off => cases h
    | pt l n j => cases h
    | sub l lo hi sz => cases h
    | dp K' y off => cases h
    | clo f cs =>
      simp only [dec1] at h
      split at h
      · rename_i c hc
        split at h
        · rename_i A R
          split at h
          case isFalse => cases h
          rename_i hown
          split at h
          · rename_i hA
            split at h
            · rename_i hR
              split at h
              · rename_i y l2 hcap
                cases h
                subst hA
                subst hR
                obtain ⟨vs, rfl, hvs⟩ := hv
                have hcv := capsD_ok (Z := Z) ih c.C cs y _ vs hcap hvs hz
                refine ⟨_, rfl, rfl, ⟨_, _, _, rfl⟩, fun X' W' e x vs' hx Q hQ => ?_⟩
                refine ⟨f, #[], vs.toArray, rfl, (hct.ct f c hc).enters, ?_⟩
                have h0 := (hct.ct f c hc).calls X' W' x y vs' vs e.low ((m.glbX.evo eZ).evo e) hx ((Kd.stands P c.C).vals e hcv) Q hQ
                rw [hown] at h0
                have := h0.mono fun en w' hp => Post.weak (P := P) e.low hp
                simpa using this
              · cases h
            · cases h
          · cases h
        · cases h
      · cases h
end
end Go.GX
set_option linter.unusedVariables false
namespace Go.GX
open Go.RowKit Go.Shelf Go.Proofs

theorem plainAdd (b off i : Nat) : (⟨b, off, none⟩ : Addr).add i = ⟨b, off + i, none⟩ := by
  unfold Addr.add; split <;> simp_all
theorem addAdd (ad : Addr) (i j : Nat) : (ad.add i).add j = ad.add (i + j) := by
  unfold Addr.add
  by_cases hi : i = 0 <;> by_cases hj : j = 0 <;> simp [hi, hj, Nat.add_assoc]
theorem addZero (ad : Addr) : ad.add 0 = ad := by unfold Addr.add; simp

structure Wide (F : Fence) (P : Program) : Prop where
  fn : ∀ f, F.fn f
  depth : F.depth = none
  calls : ∀ n f args W R, Calls P f args W R → CallsIn F n P f args W R

theorem Wide.wide (P : Program) : Wide Fence.wide P := ⟨fun _ => trivial, rfl, fun _ _ _ _ _ h => callsIn_wide.2 h⟩
theorem Wide.inRound (P : Program) (l : Nat) : Wide (Fence.wide.inRound l) P := ⟨fun _ => trivial, rfl, fun _ _ _ _ _ h => CallsIn.inRound l (callsIn_wide.2 h)⟩

def OpOut (P : Program) (o : Oper) (a : Act) (W : World) (R : Value → World → Prop) : Prop :=
  (∃ v W', (execOp a.eval o).run P W = .ok (.value v) W' ∧ R v W') ∨ (∃ W', (execOp a.eval o).run P W = .ok .skip W' ∧ R undef W') ∨
    ∃ f args, (execOp a.eval o).run P W = .ok (.enter f args) W ∧ Calls P f args W fun e w' => ∃ v, e = .returned v ∧ R v w'

theorem OpOut.mono {P : Program} {o : Oper} {a : Act} {W : World} {R R' : Value → World → Prop} (h : OpOut P o a W R) (hr : ∀ v w, R v w → R' v w) : OpOut P o a W R' := by
  rcases h with ⟨v, W', h1, h2⟩ | ⟨W', h1, h2⟩ | ⟨f, args, h1, h2⟩
  · exact .inl ⟨v, W', h1, hr _ _ h2⟩
  · exact .inr (.inl ⟨W', h1, hr _ _ h2⟩)
  · exact .inr (.inr ⟨f, args, h1, h2.mono fun e w' ⟨v, he, h⟩ => ⟨v, he, hr _ _ h⟩⟩)

theorem OpOut.wpIn {P : Program} {F : Fence} {n : Nat} {o : Oper} {a : Act} {W : World} {R : Value → World → Prop} {next : Act → World → Prop} {Q : Exit → Act → World → Prop} (hF : Wide F P) (hd : ∀ c, o.op ≠ .defer c)
    (h : OpOut P o a W R) (hn : ∀ v w', R v w' → next (a.put o.dst v) w') : o.wpIn F n P a W next Q := by
  refine ⟨fun f _ => hF.fn f, ?_⟩
  rw [Oper.semAt_eq _ _ _ hd]
  rcases h with ⟨v, W', h1, h2⟩ | ⟨W', h1, h2⟩ | ⟨f, args, h1, h2⟩
  · rw [h1]; exact hn _ _ h2
  · rw [h1]; exact hn _ _ h2
  · rw [h1]
    refine ⟨fun h => by rw [hF.depth] at h; simp at h, (hF.calls _ _ _ _ _ h2).mono ?_⟩
    rintro e w' ⟨v, rfl, h⟩
    exact hn _ _ h

section
variable {P : Program} {glb : Nat → Option GV} {Bk X0 : Nat → Prop} {w0 : World} {st : St} {ρ : Lab} {a : Act} {W W' : World} {S : Stat} {dr : Bool} {lab : Nat} {o : Oper} {Q : Eff}

def Fits (P : Program) (glb : Nat → Option GV) (Bk X0 : Nat → Prop) (w0 : World) (st : St) (ρ : Lab) (a : Act) (W : World) (Q : Eff) (v : Value) (W' : World) : Prop :=
  ∃ sv u ρ', Q sv u ∧ ρ.le ρ' ∧ Mt P glb Bk X0 w0 (st.upds u) ρ' a W' ∧ RepV P ρ' (Xs (st.upds u) ρ' X0) W' sv v ∧ W.heap.size ≤ W'.heap.size

theorem Fits.same (m : Mt P glb Bk X0 w0 st ρ a W) {sv : SV} {v : Value} (hQ : Q sv []) (hv : RepV P ρ (Xs st ρ X0) W sv v) : Fits P glb Bk X0 w0 st ρ a W Q v W :=
  ⟨sv, [], ρ, hQ, ρ.le_refl, m, hv, Nat.le_refl _⟩

theorem OpOut.plain (m : Mt P glb Bk X0 w0 st ρ a W) {sv : SV} {v : Value} (hr : (execOp a.eval o).run P W = .ok (.value v) W) (hQ : Q sv []) (hv : RepV P ρ (Xs st ρ X0) W sv v) :
    OpOut P o a W (Fits P glb Bk X0 w0 st ρ a W Q) := .inl ⟨v, W, hr, .same m hQ hv⟩

theorem ev_ok (hS : StatOK P S) (hg : S.glb = glb) (m : Mt P glb Bk X0 w0 st ρ a W) (t : TypeId) (x : Operand) : RepV P ρ (Xs st ρ X0) W (ev S st t x) (a.eval x) := by
  cases x with
  | tmp n => exact m.tms n
  | const v =>
    simp only [ev, Act.eval, cSV]
    split
    · exact ⟨_, rfl, _, rfl, rfl, rfl⟩
    · exact ⟨_, rfl, _, rfl, rfl, rfl⟩
    · exact ⟨_, rfl, _, rfl, rfl, rfl⟩
    · split
      · split
        · exact ⟨_, rfl, rfl⟩
        · trivial
      · trivial
    · exact ⟨_, rfl, rfl, rfl⟩
    · trivial
  | global g =>
    simp only [ev, Act.eval]
    split
    · rename_i v hv
      rw [hg] at hv
      obtain ⟨ty, b, cs, he, hx, hb, hc⟩ := m.glbX g v hv
      cases he
      have hz : ∀ i : Nat, (⟨g, 0, none⟩ : Addr).add i = ⟨g, i, none⟩ := by
        intro i; unfold Addr.add; split <;> simp_all
      refine ⟨_, rfl, ⟨g, 0, none⟩, cs.toList, by rw [hz], hx, ?_, hc, fun i u hu => ?_⟩
      · exact (Array.getElem?_eq_some_iff.1 hb).1
      · rw [hz]
        simp only [World.cell?, hb]
        simpa using hu
    · trivial
  | func f => exact ⟨_, rfl, [], rfl, rfl⟩

theorem oneC_ok {X : Nat → Prop} {sv : SV} {v : Value} {k : SC → Prop} (h : oneC sv k) (hv : RepV P ρ X W sv v) : ∃ c, k c ∧ RepC P ρ X W c v := by
  unfold oneC at h
  split at h
  · rename_i c
    obtain ⟨c', hc, hr⟩ := hv
    cases hc
    exact ⟨c, h, hr⟩
  · exact h.elim

theorem oneI_ok {X : Nat → Prop} {sv : SV} {v : Value} {k : Int → Prop} (h : oneI sv k) (hv : RepV P ρ X W sv v) : ∃ (kk : IntKind) (x : Int), k x ∧ v = .int kk x := by
  unfold oneI at h
  split at h
  · rename_i kk x
    obtain ⟨c', hc, h2⟩ := hv
    cases hc
    obtain ⟨v', hv', _, hr⟩ := h2
    cases hv'
    exact ⟨kk, x, h, hr⟩
  · exact h.elim

theorem oneIK_ok {X : Nat → Prop} {sv : SV} {v : Value} {k : IntKind → Int → Prop} (h : oneIK sv k) (hv : RepV P ρ X W sv v) : ∃ (kk : IntKind) (x : Int), k kk x ∧ v = .int kk x := by
  unfold oneIK at h
  split at h
  · rename_i kk x
    obtain ⟨c', hc, h2⟩ := hv
    cases hc
    obtain ⟨v', hv', _, hr⟩ := h2
    cases hv'
    exact ⟨kk, x, h, hr⟩
  · exact h.elim

theorem oneB_ok {X : Nat → Prop} {sv : SV} {v : Value} {k : Bool → Prop} (h : oneB sv k) (hv : RepV P ρ X W sv v) : ∃ b : Bool, k b ∧ v = .bool b := by
  unfold oneB at h
  split at h
  · rename_i b
    obtain ⟨c', hc, h2⟩ := hv
    cases hc
    obtain ⟨v', hv', _, hr⟩ := h2
    cases hv'
    exact ⟨b, h, hr⟩
  · exact h.elim

theorem cells_toList_one {v : Value} (h : v.oneCell' = true) : v.cells.toList = [v] := by
  cases v <;> first | rfl | simp [Value.oneCell'] at h

theorem cellsOf_ok {X : Nat → Prop} {sv : SV} {v : Value} {k : List SC → Prop} (h : cellsOf sv k) (hv : RepV P ρ X W sv v) : ∃ cs, k cs ∧ RepCs P ρ X W cs v.cells.toList := by
  unfold cellsOf at h
  split at h
  · rename_i ag cs
    refine ⟨cs, h, ?_⟩
    cases ag with
    | false =>
      obtain ⟨c, rfl, hc⟩ := hv
      rw [cells_toList_one hc.one]
      exact ⟨v, [], rfl, hc, rfl⟩
    | true =>
      obtain ⟨vs, rfl, hc⟩ := hv
      exact hc
  · exact h.elim

theorem optK_ok {α : Type} {x : Option α} {k : α → Prop} (h : optK x k) : ∃ y, x = some y ∧ k y := by
  cases x with
  | none => exact h.elim
  | some y => exact ⟨y, rfl, h⟩

theorem rep_int {X : Nat → Prop} (k : IntKind) (n : Int) : RepV P ρ X W (intSV k n) (.int k n) := ⟨_, rfl, _, rfl, rfl, rfl⟩
theorem rep_bool {X : Nat → Prop} (b : Bool) : RepV P ρ X W (boolSV b) (.bool b) := ⟨_, rfl, _, rfl, rfl, rfl⟩

theorem slData_ok (m : Mt P glb Bk X0 w0 st ρ a W) {c : SC} {K : Kd} {xs : List K.T} {ls : List Nat} {v : Value} (h : slData st.look c = some ⟨K, xs, ls⟩) (hv : RepC P ρ (Xs st ρ X0) W c v) (Z : Nat → Bool) (hz : ∀ l, l ∈ ls → Z l = true) :
    ∀ e : TypeId, ((Kd.sl e K).sem P).val (Xl st ρ X0 Z) W xs v := by
  intro e
  have eZ := m.evoZ Z
  cases c with
  | d K' x =>
    cases K' with
    | sl e' K1 =>
      simp only [slData, Option.some.injEq] at h
      cases h
      obtain ⟨v', hv', _, hr⟩ := hv
      cases hv'
      exact (Kd.stands P (.sl e' K)).val eZ hr
    | nsl e' K1 =>
      simp only [slData, Option.some.injEq] at h
      cases h
      obtain ⟨v', hv', _, h0, h2⟩ := hv
      cases hv'
      cases hx : (x : Option (List K.T)) with
      | none =>
        obtain rfl := h0 hx
        exact ⟨none, 0, rfl, Nat.le_refl _, by unfold maxLen; omega, fun h => absurd rfl h⟩
      | some xs =>
        obtain ⟨A, c, g1, g2, g3, g4, g5⟩ := h2 xs hx
        have hval : ((Kd.sl e K).sem P).val (Xs st ρ X0) W xs v := ⟨A, c, g1, g3, g4, g5⟩
        exact (Kd.stands P (.sl e K)).val eZ hval
    | _ => cases h
  | fr e' K1 xs' =>
    simp only [slData, Option.some.injEq] at h
    cases h
    obtain ⟨_, v', hv', _, hr⟩ := hv
    cases hv'
    exact (Kd.stands P (.sl e' K)).val eZ hr
  | nl e' K1 =>
    simp only [slData, Option.some.injEq] at h
    cases h
    have hv' : v = .slice none 0 0 := hv
    subst hv'
    exact ⟨none, 0, rfl, Nat.le_refl _, by unfold maxLen; omega, fun h => absurd rfl h⟩
  | own l =>
    obtain ⟨hv1, _⟩ := hv
    simp only [slData] at h
    split at h
    · rename_i nn e' K' xs' hl
      cases h
      obtain ⟨s, hs⟩ := look_some hl
      exact (m.rowVal hs hv1 (hz l (by simp))).1
    · rename_i nn e' K' xs' hl
      cases h
      obtain ⟨s, hs⟩ := look_some hl
      obtain ⟨v', hv', hok⟩ := m.hps l _ s hs
      rw [hv1] at hv'; injection hv' with hv'; subst hv'
      exact (Kd.stands P (.sl e K)).val eZ hok.1
    · rename_i e' K' xs' hl
      cases h
      obtain ⟨s, hs⟩ := look_some hl
      exact m.lnVal hs hv1 (hz l (by simp))
    · rename_i nn e' ag e1 K1 xs' vl hl
      cases h
      obtain ⟨s, hs⟩ := look_some hl
      exact (m.matVal hs hv1 (hz l (by simp))).1
    · cases h
  | inn l vl j =>
    obtain ⟨us, hu, hj, _⟩ := hv
    simp only [slData] at h
    split at h
    · rename_i nn e' ag e1 K1 xs' vl' hl
      cases hvl : Nat.beq vl vl' with
      | false => rw [hvl] at h; cases h
      | true =>
        obtain rfl := Nat.eq_of_beq_eq_true hvl
        rw [hvl] at h
        cases h
        obtain ⟨s, hs⟩ := look_some hl
        exact m.innVal hs hu hj (hz l (by simp))
    · cases h
  | sub l lo hi sz =>
    obtain ⟨A0, n, c, hρ, h1, h2, A, q, rfl, h3, h4, h5⟩ := hv
    simp only [slData] at h
    split at h
    · rename_i nn e' K' xs' hl
      cases hsz : Nat.beq sz K'.n with
      | false => rw [hsz] at h; cases h
      | true =>
        obtain rfl := Nat.eq_of_beq_eq_true hsz
        rw [hsz] at h
        cases h
        obtain ⟨s, hs⟩ := look_some hl
        obtain ⟨A1, c1, hv1, g1, g2, g3⟩ := (m.rowVal (e' := e) hs hρ (hz l (by simp))).1
        injection hv1 with q1 q2 q3
        subst q1; subst q2; subst q3
        have hlen : ((xs'.take hi).drop lo).length = hi - lo := by simp; omega
        refine ⟨A, q, by rw [hlen], by omega, h4, fun hne => ?_⟩
        have hpos : 0 < ((xs'.take hi).drop lo).length := List.length_pos_iff.2 hne
        obtain ⟨ad, rfl, rfl⟩ := h5 (by omega)
        obtain ⟨ad', had, k1, k2, k3⟩ := g3 (by intro h; subst h; simp at hpos)
        cases had
        refine ⟨_, rfl, by rw [add_block]; exact k1, by rw [add_block]; exact k2, fun j y hy => ?_⟩
        rw [List.getElem?_drop, List.getElem?_take] at hy
        split at hy
        · obtain ⟨ecs, r1, r2⟩ := k3 _ y hy
          refine ⟨ecs, r1, fun p w hw => ?_⟩
          rw [addAdd, ← Nat.add_assoc, ← Nat.add_mul]
          exact r2 p w hw
        · cases hy
    · cases h
  | _ => cases h

theorem Mt.rowElems (m : Mt P glb Bk X0 w0 st ρ a W) {l : Nat} {nn : Bool} {e : TypeId} {K : Kd} {xs : List K.T} {s : Nat} {v : Value} (h1 : st.hp l = some (.row nn e K xs, s)) (h2 : ρ l = some v) :
    ∃ A c, v = .slice A xs.length c ∧ xs.length ≤ c ∧ c ≤ maxLen ∧ (xs ≠ [] → ∃ g, A = some ⟨g, 0, none⟩ ∧ ∀ (j : Nat) x, xs[j]? = some x → ∃ ecs : List Value, (K.sem P).cells (Xs st ρ X0) W x ecs ∧ ∀ (i : Nat) u, ecs[i]? = some u → W.cell? ⟨g, j * K.n + i, none⟩ = some u) := by
  obtain ⟨v', hv', hok⟩ := m.hps l _ s h1
  rw [h2] at hv'; injection hv' with hv'; subst hv'
  obtain ⟨h0, ⟨flat, ho, hc⟩, hnn⟩ := hok
  obtain ⟨g1, g2⟩ := ho
  rcases g2 with ⟨rfl, hx⟩ | ⟨g, cap, cur, rfl, k1, k2, k3, k4, k5, k6⟩
  · obtain rfl : xs = [] := List.eq_nil_of_length_eq_zero hx
    exact ⟨none, 0, rfl, Nat.le_refl _, by unfold maxLen; omega, fun h => absurd rfl h⟩
  · refine ⟨some ⟨g, 0, none⟩, cap, rfl, k3, k4, fun _ => ⟨g, rfl, fun j x hj => ⟨_, hc j x hj, fun i u hu => ?_⟩⟩⟩
    rw [List.getElem?_take] at hu
    split at hu
    · rw [List.getElem?_drop] at hu
      have ho' : W.ownsRow 0 e K.n (.slice (some ⟨g, 0, none⟩) xs.length cap) xs.length flat := ⟨g1, .inr ⟨g, cap, cur, rfl, k1, k2, k3, k4, k5, k6⟩⟩
      have := ho'.cells rfl (j * K.n + i) u hu
      have hadd : (⟨g, 0, none⟩ : Addr).add (j * K.n + i) = ⟨g, j * K.n + i, none⟩ := by unfold Addr.add; split <;> simp_all
      rwa [hadd] at this
    · cases hu

theorem cellsAt_ok (m : Mt P glb Bk X0 w0 st ρ a W) {c : SC} {cs : List SC} {v : Value} (h : cellsAt st.look c = some cs) (hv : RepC P ρ (Xs st ρ X0) W c v) :
    ∃ ad us, v = .pointer (some ad) ∧ RepCs P ρ (Xs st ρ X0) W cs us ∧ ∀ (i : Nat) u, us[i]? = some u → W.cell? (ad.add i) = some u := by
  have plainAdd : ∀ (b off i : Nat), (⟨b, off, none⟩ : Addr).add i = ⟨b, off + i, none⟩ := by
    intro b off i; unfold Addr.add; split <;> simp_all
  have addAdd : ∀ (ad : Addr) (i j : Nat), (ad.add i).add j = ad.add (i + j) := by
    intro ad i j
    unfold Addr.add
    by_cases hi : i = 0 <;> by_cases hj : j = 0 <;> simp [hi, hj, Nat.add_assoc]
  cases c with
  | ptr l off =>
    obtain ⟨b, hρ, rfl⟩ := hv
    simp only [cellsAt] at h
    split at h
    · rename_i own ty ds hl
      cases h
      obtain ⟨s, hs⟩ := look_some hl
      obtain ⟨v', hv', hok⟩ := m.hps l _ s hs
      rw [hρ] at hv'; injection hv' with hv'; subst hv'
      obtain ⟨b', arr, he, hb, hcs, _⟩ := hok
      injection he with he; injection he with he; injection he with he
      subst he
      refine ⟨_, arr.toList.drop off, rfl, hcs.drop off, fun i u hu => ?_⟩
      rw [plainAdd, cell_of_row W b (off + i) arr ty (0, 0) hb]
      rw [List.getElem?_drop] at hu
      simpa using hu
    · cases h
  | ep l j sz off =>
    obtain ⟨b, n, c0, hρ, rfl, hj⟩ := hv
    have key : ∀ (K : Kd) (xs : List K.T), sz = K.n → xs.length = n → (∀ (j : Nat) x, xs[j]? = some x → ∃ ecs : List Value, (K.sem P).cells (Xs st ρ X0) W x ecs ∧ ∀ (i : Nat) u, ecs[i]? = some u → W.cell? (b.add (j * K.n + i)) = some u) → cs = (K.fl (xs.getD j K.dflt)).drop off →
        ∃ ad us, (Value.pointer (some (b.add (j * sz + off)))) = .pointer (some ad) ∧ RepCs P ρ (Xs st ρ X0) W cs us ∧ ∀ (i : Nat) u, us[i]? = some u → W.cell? (ad.add i) = some u := by
      rintro K xs rfl hlen hget rfl
      have hj' : j < xs.length := by omega
      have hx : xs[j]? = some (xs.getD j K.dflt) := by rw [List.getD_eq_getElem?_getD, List.getElem?_eq_getElem hj']; rfl
      obtain ⟨ecs, h1, h2⟩ := hget j _ hx
      refine ⟨_, ecs.drop off, rfl, (RepCs.of_cells K h1).drop off, fun i u hu => ?_⟩
      rw [List.getElem?_drop] at hu
      have := h2 (off + i) u hu
      rw [addAdd]
      rw [← this]
      congr 2
      omega
    simp only [cellsAt] at h
    split at h
    · rename_i nn e' K xs hl
      cases hb : Nat.beq sz K.n with
      | false => rw [hb] at h; cases h
      | true =>
        rw [hb] at h
        simp only [cond_true, Option.some.injEq] at h
        obtain ⟨s, hs⟩ := look_some hl
        obtain ⟨A, c, h1, _, _, hr⟩ := m.rowElems hs hρ
        injection h1 with hA hlen hc
        obtain ⟨g, hg, hget⟩ := hr (by intro h; subst h; simp at hlen; omega)
        rw [← hA] at hg
        injection hg with hg
        subst hg
        exact key K xs (Nat.eq_of_beq_eq_true hb) hlen.symm (fun j x hj => by
          obtain ⟨ecs, k1, k2⟩ := hget j x hj
          exact ⟨ecs, k1, fun i u hu => by rw [plainAdd, Nat.zero_add]; exact k2 i u hu⟩) h.symm
    · rename_i nn e' K xs hl
      cases hb : Nat.beq sz K.n with
      | false => rw [hb] at h; cases h
      | true =>
        rw [hb] at h
        simp only [cond_true, Option.some.injEq] at h
        obtain ⟨s, hs⟩ := look_some hl
        obtain ⟨v', hv', hok⟩ := m.hps l _ s hs
        rw [hρ] at hv'; injection hv' with hv'; subst hv'
        obtain ⟨⟨A, c, h1, _, _, hr⟩, _⟩ := hok
        injection h1 with hA hlen hc
        obtain ⟨ad, hg, _, _, hget⟩ := hr (by intro h; subst h; simp at hlen; omega)
        rw [← hA] at hg
        injection hg with hg
        subst hg
        exact key K xs (Nat.eq_of_beq_eq_true hb) hlen.symm hget h.symm
    · rename_i e' K xs hl
      cases hb : Nat.beq sz K.n with
      | false => rw [hb] at h; cases h
      | true =>
        rw [hb] at h
        simp only [cond_true, Option.some.injEq] at h
        obtain ⟨s, hs⟩ := look_some hl
        obtain ⟨v', hv', hok⟩ := m.hps l _ s hs
        rw [hρ] at hv'; injection hv' with hv'; subst hv'
        obtain ⟨hf, A, c, h1, _, _, hr⟩ := hok
        injection h1 with hA hlen hc
        obtain ⟨ad, hg, _, hget⟩ := hr (by intro h; subst h; simp at hlen; omega)
        rw [← hA] at hg
        injection hg with hg
        subst hg
        exact key K xs (Nat.eq_of_beq_eq_true hb) hlen.symm (fun j x hj => by
          obtain ⟨ecs, k1, k2⟩ := hget j x hj
          exact ⟨ecs, Kd.flat_cells P K hf k1, k2⟩) h.symm
    · rename_i nn e' ag e1 K1 xs vl hl
      cases hb : (Nat.beq sz 1 && Nat.beq off 0) with
      | false => rw [hb] at h; cases h
      | true =>
        rw [hb] at h
        cases h
        simp only [Bool.and_eq_true] at hb
        obtain rfl := Nat.eq_of_beq_eq_true hb.1
        obtain rfl := Nat.eq_of_beq_eq_true hb.2
        obtain ⟨s, hs⟩ := look_some hl
        obtain ⟨v', hv', ⟨us, hu, mo⟩, _⟩ := m.hps l _ s hs
        rw [hρ] at hv'; injection hv' with hv'; subst hv'
        obtain ⟨hd, ho, hh⟩ := mo.out
        have hlen : xs.length = n ∧ ∃ g, b = ⟨g, 0, none⟩ := by
          obtain ⟨_, ho⟩ := ho
          rcases ho with ⟨h, _⟩ | ⟨g, cap, cur, h, _⟩
          · cases h
          · injection h with h1 h2 h3
            injection h1 with h1
            exact ⟨h2.symm, g, h1⟩
        obtain ⟨hlen, g, rfl⟩ := hlen
        have hju0 : j < us.length := by rw [mo.len]; omega
        have hju1 : j < xs.length := by omega
        have hju : us[j]? = some us[j] := List.getElem?_eq_getElem hju0
        have hxj : xs[j]? = some xs[j] := List.getElem?_eq_getElem hju1
        have hslu : ∃ a n c, us[j] = .slice a n c := by
          obtain ⟨fl, ⟨_, ho2⟩, _⟩ := mo.inr j _ _ hju hxj rfl
          rcases ho2 with ⟨h, _⟩ | ⟨g, cap, cur, h, _⟩ <;> exact ⟨_, _, _, h⟩
        refine ⟨_, [us[j]], rfl, ⟨us[j], [], rfl, ⟨us, hu, hju, hslu, by rw [hρ]; rfl⟩, rfl⟩, fun i u hi => ?_⟩
        cases i with
        | succ i => simp at hi
        | zero =>
          simp only [List.getElem?_cons_zero, Option.some.injEq] at hi
          subst hi
          rw [addAdd]
          have := ho.cells rfl j _ (hh j _ hju rfl)
          simpa using this
    · cases h
  | pt l n j =>
    obtain ⟨⟨b, hρ, rfl⟩, hj0, hj1⟩ := hv
    simp only [cellsAt] at h
    split at h
    · rename_i own ty ds hl
      cases hb : Nat.ble n ds.length with
      | false => rw [hb] at h; cases h
      | true =>
        rw [hb] at h
        have hb := Nat.le_of_ble_eq_true hb
        obtain ⟨c', hp, rfl⟩ := Option.map_eq_some_iff.1 (show Option.map _ _ = _ from h)
        obtain ⟨s, hs⟩ := look_some hl
        obtain ⟨v', hv', hok⟩ := m.hps l _ s hs
        rw [hρ] at hv'; injection hv' with hv'; subst hv'
        obtain ⟨b', arr, he, hbk, hcs, _⟩ := hok
        injection he with he; injection he with he; injection he with he
        subst he
        have hlen := hcs.length
        obtain ⟨w, hw, hr⟩ := pickD_ok hp (hcs.take n) hj0 (by rw [List.length_take]; omega)
        refine ⟨_, [w], rfl, ⟨w, [], rfl, hr, rfl⟩, fun i u hu => ?_⟩
        cases i with
        | succ i => simp at hu
        | zero =>
          simp only [List.getElem?_cons_zero, Option.some.injEq] at hu
          subst hu
          rw [plainAdd, cell_of_row W b (j.toNat + 0) arr ty (0, 0) hbk]
          rw [List.getElem?_take] at hw
          split at hw
          · simpa using hw
          · cases hw
    · cases h
  | iep l vl j i sz off =>
    obtain ⟨us, ad, n, c0, hu, hj, rfl, hi, _⟩ := hv
    simp only [cellsAt] at h
    split at h
    · rename_i nn e' ag e1 K1 xs vl' hl
      cases hb : (Nat.beq vl vl' && Nat.beq sz K1.n) with
      | false => rw [hb] at h; cases h
      | true =>
        rw [hb] at h
        cases h
        simp only [Bool.and_eq_true] at hb
        obtain rfl := Nat.eq_of_beq_eq_true hb.1
        obtain rfl := Nat.eq_of_beq_eq_true hb.2
        obtain ⟨s, hs⟩ := look_some hl
        obtain ⟨v', hv', ⟨us', hu', mo⟩, _⟩ := m.hps l _ s hs
        rw [hu] at hu'
        obtain rfl := tuple_inj hu'
        have hlt : j < xs.length := by rw [← mo.len]; exact (List.getElem?_eq_some_iff.1 hj).1
        have hxj : xs[j]? = some (xs.getD j []) := by rw [List.getD_eq_getElem?_getD, List.getElem?_eq_getElem hlt]; rfl
        obtain ⟨fl, ho, hc⟩ := mo.inr j _ _ hj hxj rfl
        have hil : i < (xs.getD j []).length ∧ ∃ g, ad = ⟨g, 0, none⟩ := by
          obtain ⟨_, ho⟩ := ho
          rcases ho with ⟨h, _⟩ | ⟨g, cap, cur, h, _⟩
          · cases h
          · injection h with h1 h2 h3
            injection h1 with h1
            exact ⟨by omega, g, h1⟩
        obtain ⟨hil, g, rfl⟩ := hil
        have hget : ∀ ys : List K1.T, i < ys.length → ys[i]? = some (ys.getD i K1.dflt) := fun ys h => by rw [List.getD_eq_getElem?_getD, List.getElem?_eq_getElem h]; rfl
        have hxi := hget _ hil
        have hci := hc i _ hxi
        refine ⟨_, _, rfl, (RepCs.of_cells (X := Xs st ρ X0) K1 (Kd.flat_cells P K1 mo.flat hci)).drop off, fun q u hq => ?_⟩
        rw [List.getElem?_drop, List.getElem?_take] at hq
        split at hq
        · rw [List.getElem?_drop] at hq
          have := ho.cells rfl (i * K1.n + (off + q)) u hq
          rw [addAdd]
          rw [← this]
          congr 2
          omega
        · cases hq
    · cases h
  | dp K x off =>
    obtain ⟨ad, ds, rfl, _, _, h3, h4⟩ := hv
    simp only [cellsAt, Option.some.injEq] at h
    subst h
    refine ⟨_, ds.drop off, rfl, (RepCs.of_cells K h3).drop off, fun i u hu => ?_⟩
    rw [List.getElem?_drop] at hu
    rw [addAdd]
    exact h4 (off + i) u hu
  | d K x =>
    cases K with
    | ptr t K =>
      simp only [cellsAt, Option.some.injEq] at h
      subst h
      obtain ⟨v', hv', _, b, arr, rfl, _, hb, hc⟩ := hv
      cases hv'
      refine ⟨_, arr.toList, rfl, RepCs.of_cells K hc, fun i u hu => ?_⟩
      rw [plainAdd, cell_of_row W b (0 + i) arr t (0, 0) hb]
      simpa using hu
    | _ => cases h
  | _ => cases h
end
end Go.GX
set_option linter.unusedVariables false
namespace Go.GX
open Go.RowKit Go.Shelf Go.Proofs

section
variable {P : Program} {glb : Nat → Option GV} {Bk X0 : Nat → Prop} {w0 : World} {st : St} {ρ : Lab} {a : Act} {W W' : World} {S : Stat} {dr : Bool} {lab : Nat} {o : Oper} {Q : Eff}

theorem exec_v {s : Sem Value} {v : Value} (h : execOp a.eval o = (do pure (.value (← s)))) (hs : s.run P W = .ok v W') : (execOp a.eval o).run P W = .ok (.value v) W' := by
  rw [h, Sem.run_bind, hs]; rfl
theorem exec_u {s : Sem Unit} (h : execOp a.eval o = (do s; pure .skip)) (hs : s.run P W = .ok () W') : (execOp a.eval o).run P W = .ok .skip W' := by
  rw [h, Sem.run_bind, hs]; rfl

theorem sem_move (hS : StatOK P S) (hg : S.glb = glb) (m : Mt P glb Bk X0 w0 st ρ a W) {x : Operand} (hop : o.op = .move x ∨ o.op = .assign x) (h : Q (ev S st o.type x) []) : OpOut P o a W (Fits P glb Bk X0 w0 st ρ a W Q) := by
  refine .plain m (v := a.eval x) ?_ h (ev_ok hS hg m _ x)
  rcases hop with hop | hop <;> · unfold execOp; rw [hop]; rfl

theorem sem_pick (hS : StatOK P S) (hg : S.glb = glb) (m : Mt P glb Bk X0 w0 st ρ a W) {c x y : Operand} (hop : o.op = .pick c x y) (h : oneB (ev S st 0 c) fun t => cnd t (Q (ev S st o.type x) []) (Q (ev S st o.type y) [])) : OpOut P o a W (Fits P glb Bk X0 w0 st ρ a W Q) := by
  obtain ⟨b, hk, hv⟩ := oneB_ok h (ev_ok hS hg m 0 c)
  cases b with
  | true =>
    refine .plain m (v := a.eval x) ?_ hk (ev_ok hS hg m _ x)
    unfold execOp; rw [hop]; simp [hv, asBool]
  | false =>
    refine .plain m (v := a.eval y) ?_ hk (ev_ok hS hg m _ y)
    unfold execOp; rw [hop]; simp [hv, asBool]

theorem sem_nilCheck (hS : StatOK P S) (hg : S.glb = glb) (m : Mt P glb Bk X0 w0 st ρ a W) {x : Operand} (hop : o.op = .nilCheck x) (h : oneC (ev S st o.type x) fun c => match c with
      | .ptr l off => Q (.mk false [.ptr l off]) []
      | .ep l j sz off => Q (.mk false [.ep l j sz off]) []
      | .iep l vl j i sz off => Q (.mk false [.iep l vl j i sz off]) []
      | .dp K x off => Q (.mk false [.dp K x off]) []
      | .d (.ptr t K) x => Q (.mk false [.d (.ptr t K) x]) []
      | _ => False) : OpOut P o a W (Fits P glb Bk X0 w0 st ρ a W Q) := by
  obtain ⟨c, hk, hv⟩ := oneC_ok h (ev_ok hS hg m _ x)
  have run : ∀ ad : Addr, a.eval x = .pointer (some ad) → (execOp a.eval o).run P W = .ok (.value (a.eval x)) W := by
    intro ad he; unfold execOp; rw [hop]; dsimp only; rw [he]; rfl
  have hc : Q (.mk false [c]) [] ∧ ∃ ad, a.eval x = .pointer (some ad) := by
    split at hk
    · obtain ⟨b, _, he⟩ := hv; exact ⟨hk, _, he⟩
    · obtain ⟨b, _, _, _, he, _⟩ := hv; exact ⟨hk, _, he⟩
    · obtain ⟨_, _, _, _, _, _, he, _⟩ := hv; exact ⟨hk, _, he⟩
    · obtain ⟨ad, _, he, _⟩ := hv; exact ⟨hk, _, he⟩
    · have hv2 := hv
      obtain ⟨v', hv', _, b, _, he, _⟩ := hv2
      cases hv'
      exact ⟨hk, _, he⟩
    · exact hk.elim
  obtain ⟨hQ, ad, he⟩ := hc
  exact .plain m (run ad he) hQ ⟨c, rfl, hv⟩

theorem run_guard_int (op : BinOp) (t : TypeId) (x y : Operand) (k k' : IntKind) (m n : Int) (W : World) : (eqGuard op t x y (.int k m) (.int k' n)).run P W = .ok () W := by
  unfold eqGuard; cases op <;> rfl
theorem run_guard_bool (op : BinOp) (t : TypeId) (x y : Operand) (m n : Bool) (W : World) : (eqGuard op t x y (.bool m) (.bool n)).run P W = .ok () W := by
  unfold eqGuard; cases op <;> rfl

theorem sem_binI {op : BinOp} {t t' : TypeId} {x y : Operand} (m : Mt P glb Bk X0 w0 st ρ a W) (hop : o.op = .binOp op t x y t') {k : IntKind} {p q : Int} (hx : a.eval x = .int k p) (hy : a.eval y = .int k q) (h : binI op k p q fun r => Q r []) : OpOut P o a W (Fits P glb Bk X0 w0 st ρ a W Q) := by
  have run : ∀ v, (binOp op t (.int k p) (.int k q)).run P W = .ok v W → (execOp a.eval o).run P W = .ok (.value v) W := by
    intro v hv
    refine exec_v (s := do eqGuard op t x y (a.eval x) (a.eval y); binOp op t (a.eval x) (a.eval y)) (by unfold execOp; rw [hop]) ?_
    rw [hx, hy, Sem.run_bind, run_guard_int]; exact hv
  cases op <;> first | exact h.elim | skip
  case add => exact .plain m (run (.int k (k.wrap (p + q))) (by simp [binOp, Op.intArith])) h (rep_int _ _)
  case sub => exact .plain m (run (.int k (k.wrap (p - q))) (by simp [binOp, Op.intArith])) h (rep_int _ _)
  case mul => exact .plain m (run (.int k (k.wrap (p * q))) (by simp [binOp, Op.intArith])) h (rep_int _ _)
  case quo => exact .plain m (run (.int k (k.wrap (Int.tdiv p q))) (by simp [binOp, Op.intDiv, h.1])) h.2 (rep_int _ _)
  case rem => exact .plain m (run (.int k (Int.tmod p q)) (by simp [binOp, Op.intDiv, h.1])) h.2 (rep_int _ _)
  case and => exact .plain m (run (.int k (k.wrap (BitVec.toNat (BitVec.ofInt k.bits p &&& BitVec.ofInt k.bits q)))) (by simp [binOp, Op.intBits])) h (rep_int _ _)
  case eql => exact .plain m (run (.bool (p == q)) (by simp [binOp, Op.intCmp])) h (rep_bool _)
  case neq => exact .plain m (run (.bool (p != q)) (by simp [binOp, Op.intCmp])) h (rep_bool _)
  case lss => exact .plain m (run (.bool (decide (p < q))) (by simp [binOp, Op.intCmp])) h (rep_bool _)
  case leq => exact .plain m (run (.bool (decide (p ≤ q))) (by simp [binOp, Op.intCmp])) h (rep_bool _)
  case gtr => exact .plain m (run (.bool (decide (p > q))) (by simp [binOp, Op.intCmp])) h (rep_bool _)
  case geq => exact .plain m (run (.bool (decide (p ≥ q))) (by simp [binOp, Op.intCmp])) h (rep_bool _)

theorem sem_binB {op : BinOp} {t t' : TypeId} {x y : Operand} (m : Mt P glb Bk X0 w0 st ρ a W) (hop : o.op = .binOp op t x y t') {p q : Bool} (ht : P.underlying t = some .bool) (hx : a.eval x = .bool p) (hy : a.eval y = .bool q) (h : binB op p q fun r => Q r []) : OpOut P o a W (Fits P glb Bk X0 w0 st ρ a W Q) := by
  have run : ∀ v, (binOp op t (.bool p) (.bool q)).run P W = .ok v W → (execOp a.eval o).run P W = .ok (.value v) W := by
    intro v hv
    refine exec_v (s := do eqGuard op t x y (a.eval x) (a.eval y); binOp op t (a.eval x) (a.eval y)) (by unfold execOp; rw [hop]) ?_
    rw [hx, hy, Sem.run_bind, run_guard_bool]; exact hv
  cases op <;> first | exact h.elim | skip
  case eql => exact .plain m (run (.bool (p == q)) (run_eql_bool W t p q ht)) h (rep_bool _)
  case neq => exact .plain m (run (.bool (!(p == q))) (run_neq_bool W t p q ht)) h (rep_bool _)

theorem run_nilSlice (op : BinOp) (hop : op = .eql ∨ op = .neq) (t e : TypeId) (x y : Operand) (A : Option Addr) (n c : Nat) (ht : P.underlying t = some (.slice e)) (W : World) :
    (do eqGuard op t x y (.slice A n c) (.slice none 0 0); binOp op t (.slice A n c) (.slice none 0 0) : Sem Value).run P W = .ok (.bool (if op = .eql then A.isNone else !A.isNone)) W := by
  have hgd : (eqGuard op t x y (.slice A n c) (.slice none 0 0)).run P W = .ok () W := by unfold eqGuard; cases op <;> rfl
  rw [Sem.run_bind, hgd]
  rcases hop with rfl | rfl
  · show (binOp .eql t (.slice A n c) (.slice none 0 0)).run P W = _
    simp only [binOp, Sem.run_bind, run_equal_slice_nil W t e A n c ht]
    rfl
  · exact run_neq_slice_nil W t e A n c ht

def nilS (dr : Bool) (look : Nat → Option HE) (op : BinOp) (c : SC) (Q : Eff) : Prop :=
  match op with
  | .eql => isNil dr look c fun r => Q (boolSV r) []
  | .neq => isNil dr look c fun r => Q (boolSV (!r)) []
  | _ => False

theorem sem_nil {op : BinOp} {t t' e0 : TypeId} {x y : Operand} (m : Mt P glb Bk X0 w0 st ρ a W) (hop : o.op = .binOp op t x y t') (ht : P.underlying t = some (.slice e0)) {c : SC} (hc : RepC P ρ (Xs st ρ X0) W c (a.eval x)) (hy : a.eval y = .slice none 0 0)
    (h : nilS dr st.look op c Q) : OpOut P o a W (Fits P glb Bk X0 w0 st ρ a W Q) := by
  have key : ∀ (k : Bool → Prop), isNil dr st.look c k → ∃ A n cc, a.eval x = .slice A n cc ∧ k A.isNone := by
    intro k hk
    have dat : ∀ (K : Kd) (xs : List K.T) (X : Nat → Prop) (v : Value), (∀ e, ((Kd.sl e K).sem P).val X W xs v) → (∀ b : Bool, (b = true → xs = ([] : List K.T)) → k b) → ∃ A n cc, v = .slice A n cc ∧ k A.isNone := by
      intro K xs X v hv hk
      obtain ⟨A, cc, h1, _, _, h2⟩ := hv 0
      refine ⟨A, _, _, h1, hk _ (fun hA => ?_)⟩
      cases xs with
      | nil => rfl
      | cons y ys =>
        obtain ⟨ad, hA', _⟩ := h2 (by simp)
        rw [hA'] at hA
        cases hA
    cases c with
    | d K xs =>
      cases K with
      | sl e K =>
        obtain ⟨_, hk⟩ := chk_iff.1 hk
        obtain ⟨v', hv', _, hr⟩ := hc
        cases hv'
        exact dat K xs _ _ (fun _ => hr) hk
      | nsl e K =>
        have hk' : k (Option.isNone xs) := hk
        obtain ⟨v', hv', _, h0, h2⟩ := hc
        cases hv'
        cases hx : (xs : Option (List K.T)) with
        | none => rw [hx] at hk'; exact ⟨none, 0, 0, h0 hx, hk'⟩
        | some ys =>
          rw [hx] at hk'
          obtain ⟨A, cc, g1, g2, _⟩ := h2 ys hx
          refine ⟨A, _, _, g1, ?_⟩
          cases A with
          | none => exact absurd rfl g2
          | some ad => exact hk'
      | _ => exact hk.elim
    | nl e K => exact ⟨none, 0, 0, hc, hk⟩
    | own l =>
      obtain ⟨hρ, _⟩ := hc
      have rowc : ∀ (nn : Bool) (K : Kd) (xs : List K.T), (∀ e, ∃ X, ((Kd.sl e K).sem P).val X W xs (a.eval x)) → (nn = true → ∃ ad n cc, a.eval x = .slice (some ad) n cc) → cond nn (k false) (chk (!dr) (∀ b : Bool, (b = true → xs = ([] : List K.T)) → k b)) → ∃ A n cc, a.eval x = .slice A n cc ∧ k A.isNone := by
        intro nn K xs hv hn hk
        cases nn with
        | true =>
          obtain ⟨ad, n, cc, he⟩ := hn rfl
          exact ⟨some ad, n, cc, he, hk⟩
        | false =>
          obtain ⟨_, hk⟩ := chk_iff.1 hk
          obtain ⟨X, hv⟩ := hv 0
          exact dat K xs X _ (fun _ => hv) hk
      simp only [isNil] at hk
      split at hk
      · rename_i nn e K xs hl
        obtain ⟨s, hs⟩ := look_some hl
        have := fun e' => m.rowVal (Z := fun _ => true) (e' := e') hs hρ rfl
        exact rowc nn K xs (fun e => ⟨_, (this e).1⟩) (this 0).2 hk
      · rename_i nn e K xs hl
        obtain ⟨s, hs⟩ := look_some hl
        obtain ⟨v', hv', hok⟩ := m.hps l _ s hs
        rw [hρ] at hv'; injection hv' with hv'
        rw [← hv'] at hok
        exact rowc nn K xs (fun e => ⟨_, hok.1⟩) hok.2 hk
      · rename_i nn e ag e1 K1 xs hole vl hl
        obtain ⟨s, hs⟩ := look_some hl
        obtain ⟨v', hv', hok⟩ := m.hps l _ s hs
        rw [hρ] at hv'; injection hv' with hv'
        rw [← hv'] at hok
        cases nn with
        | false => exact hk.elim
        | true =>
          obtain ⟨ad, n, cc, he⟩ := hok.2 rfl
          exact ⟨some ad, n, cc, he, hk⟩
      · exact hk.elim
    | _ => exact hk.elim
  have run : ∀ A n cc, a.eval x = .slice A n cc → (op = .eql ∨ op = .neq) → (execOp a.eval o).run P W = .ok (.value (.bool (if op = .eql then A.isNone else !A.isNone))) W := by
    intro A n cc he ho
    refine exec_v (s := do eqGuard op t x y (a.eval x) (a.eval y); binOp op t (a.eval x) (a.eval y)) (by unfold execOp; rw [hop]) ?_
    rw [he, hy]
    exact run_nilSlice op ho t e0 x y A n cc ht W
  cases op <;> first | exact h.elim | skip
  case eql =>
    obtain ⟨A, n, cc, he, hk⟩ := key _ h
    exact .plain m (run A n cc he (.inl rfl)) hk (rep_bool _)
  case neq =>
    obtain ⟨A, n, cc, he, hk⟩ := key _ h
    exact .plain m (run A n cc he (.inr rfl)) hk (rep_bool _)

theorem sem_shr {op : BinOp} {t t' : TypeId} {x y : Operand} (m : Mt P glb Bk X0 w0 st ρ a W) (hop : o.op = .binOp op t x y t') {k k' : IntKind} {p q : Int} (hx : a.eval x = .int k p) (hy : a.eval y = .int k' q) {pr : Prop} (h : shS op k p q (fun r => Q r []) pr) :
    (OpOut P o a W (Fits P glb Bk X0 w0 st ρ a W Q)) ∨ (pr ∧ op ≠ .shl ∧ op ≠ .shr) := by
  unfold shS at h
  split at h
  · left
    refine .plain m (v := .int k (Int.fdiv p (2 ^ (min (Int.toNat q) k.bits)))) (exec_v (s := do eqGuard .shr t x y (a.eval x) (a.eval y); binOp .shr t (a.eval x) (a.eval y)) (by unfold execOp; rw [hop]) ?_) h.2 (rep_int _ _)
    rw [hx, hy, Sem.run_bind, run_guard_int]
    have h0 : ¬ (q < 0) := by have := h.1; omega
    simp [binOp, Op.shift, h0]
  · exact h.elim
  · rename_i h1 h2
    exact .inr ⟨h, fun hh => h2 hh, fun hh => h1 hh⟩

theorem eqIs_ok {X : Nat → Prop} : ∀ {cs ds : List SC} {b : Bool} {us vs : List Value}, eqIs cs ds = some b → RepCs P ρ X W cs us → RepCs P ρ X W ds vs →
    ∃ ps qs : List (IntKind × Int), us = ps.map (fun p => .int p.1 p.2) ∧ vs = qs.map (fun p => .int p.1 p.2) ∧ ps.length = qs.length ∧ (∀ (j : Nat) p q, ps[j]? = some p → qs[j]? = some q → p.1 = q.1) ∧ b = (ps.zip qs).all fun z => z.1.2 == z.2.2
  | [], [], b, us, vs, h, hu, hv => by
    cases h
    have hu : us = [] := hu
    have hv : vs = [] := hv
    subst hu; subst hv
    exact ⟨[], [], rfl, rfl, rfl, fun j p q hp => by simp at hp, rfl⟩
  | .d (.int k) x :: r, .d (.int k') y :: s, b, us, vs, h, ⟨u, us', hu, hu1, hu2⟩, ⟨v, vs', hv, hv1, hv2⟩ => by
    subst hu; subst hv
    simp only [eqIs] at h
    cases hk : decide (k = k') with
    | false => rw [hk] at h; cases h
    | true =>
    rw [hk, cond_true] at h
    have hk := of_decide_eq_true hk
    cases hr : eqIs r s with
    | none => rw [hr] at h; cases h
    | some b' =>
      rw [hr] at h
      cases h
      obtain ⟨ps, qs, h1, h2, h3, h5, h4⟩ := eqIs_ok hr hu2 hv2
      obtain ⟨u', hu', _, hu3⟩ := hu1
      obtain ⟨v', hv', _, hv3⟩ := hv1
      cases hu'; cases hv'
      refine ⟨(k, x) :: ps, (k', y) :: qs, ?_, ?_, ?_, fun j p q hp hq => ?_, ?_⟩
      · rw [hu3, h1]; rfl
      · rw [hv3, h2]; rfl
      · simp [h3]
      · cases j with
        | zero => cases hp; cases hq; exact hk
        | succ j => exact h5 j p q (by simpa using hp) (by simpa using hq)
      · simp [h4]

theorem eqFields_ok (d : Nat) (xs ys : Array Value) (W : World) : ∀ (fs : List Field) (ps qs : List (IntKind × Int)) (i : Nat), ps.length = fs.length → qs.length = fs.length →
    (∀ (j : Nat) fd, fs[j]? = some fd → fd.name ≠ "_" ∧ fd.offset = i + j ∧ ∃ k, P.underlying fd.type = some (.int k)) → (∀ (j : Nat) p, ps[j]? = some p → xs[i + j]? = some (.int p.1 p.2)) → (∀ (j : Nat) p, qs[j]? = some p → ys[i + j]? = some (.int p.1 p.2)) →
    (∀ (j : Nat) p q, ps[j]? = some p → qs[j]? = some q → p.1 = q.1) →
    (Op.eqFields (d + 1) xs ys fs).run P W = .ok ((ps.zip qs).all fun z => z.1.2 == z.2.2) W
  | [], ps, qs, i, h1, h2, _, _, _, _ => by
    have : ps = [] := List.eq_nil_of_length_eq_zero (by simpa using h1)
    subst this
    rfl
  | f :: fs, [], qs, i, h1, _, _, _, _, _ => by simp at h1
  | f :: fs, p :: ps, [], i, _, h2, _, _, _, _ => by simp at h2
  | f :: fs, p :: ps, q :: qs, i, h1, h2, hf, hp, hq, hk => by
    obtain ⟨n1, n2, k, n3⟩ := hf 0 f rfl
    have hx := hp 0 p rfl
    have hy := hq 0 q rfl
    rw [Nat.add_zero] at n2 hx hy
    have hagg : (isAgg f.type).run P W = .ok false W := run_isAgg_plain n3 rfl W
    have ih := eqFields_ok d xs ys W fs ps qs (i + 1) (by simpa using h1) (by simpa using h2) (fun j fd hj => by have := hf (j + 1) fd (by simpa using hj); rwa [show i + (j + 1) = i + 1 + j by omega] at this)
      (fun j p hj => by have := hp (j + 1) p (by simpa using hj); rwa [show i + (j + 1) = i + 1 + j by omega] at this) (fun j p hj => by have := hq (j + 1) p (by simpa using hj); rwa [show i + (j + 1) = i + 1 + j by omega] at this)
      (fun j p q hj hj' => hk (j + 1) p q (by simpa using hj) (by simpa using hj'))
    have hkk := hk 0 p q rfl rfl
    have heq : (Op.equalIn (d + 1) f.type (.int p.1 p.2) (.int q.1 q.2)).run P W = .ok (p.2 == q.2) W := by
      rw [hkk]; exact run_equalIn_int W d f.type q.1 k p.2 q.2 n3
    simp only [Op.eqFields, n1, ne_eq, not_false_eq_true, if_true, Sem.run_bind, part, hagg, Result.andThen_ok, Bool.false_eq_true, if_false, n2, hx, hy, Sem.run_pure, heq]
    cases hb : (p.2 == q.2) with
    | false => simp [hb]
    | true => simp [hb, ih]

theorem sem_bin0 (hS : StatOK P S) (hg : S.glb = glb) (m : Mt P glb Bk X0 w0 st ρ a W) {op : BinOp} {t t' : TypeId} {x y : Operand} (hop : o.op = .binOp op t x y t')
    (h : oneC (ev S st t x) fun c => oneC (ev S st t' y) fun d => binS dr (isBoolT (S.ty t)) (S.sl t).isSome st.look op c d fun r => Q r []) : OpOut P o a W (Fits P glb Bk X0 w0 st ρ a W Q) := by
  obtain ⟨c, h, hc⟩ := oneC_ok h (ev_ok hS hg m _ x)
  obtain ⟨d, h, hd⟩ := oneC_ok h (ev_ok hS hg m _ y)
  unfold binS at h
  split at h
  · obtain ⟨v, hv, _, h1⟩ := hc
    obtain ⟨v2, hv2, _, h2⟩ := hd
    cases hv; cases hv2
    rcases sem_shr m hop h1 h2 h with h | ⟨h, _, _⟩
    · exact h
    · obtain ⟨hk, h⟩ := chk_iff.1 h
      have hk' := of_decide_eq_true hk
      subst hk'
      exact sem_binI m hop h1 h2 h
  · obtain ⟨ht, h⟩ := chk_iff.1 h
    obtain ⟨v, hv, _, h1⟩ := hc
    obtain ⟨v2, hv2, _, h2⟩ := hd
    cases hv; cases hv2
    have hb : P.underlying t = some .bool := by
      unfold isBoolT at ht
      split at ht
      · rename_i b hti; exact hS.bool t b hti
      · cases ht
    exact sem_binB m hop hb h1 h2 h
  · obtain ⟨ht, h⟩ := chk_iff.1 h
    obtain ⟨e0, he0⟩ := Option.isSome_iff_exists.1 ht
    refine sem_nil (dr := dr) m hop (hS.sl t e0 he0) hc hd ?_
    cases op <;> exact h
  · exact h.elim

theorem aggC_ok {v w : SV} {k : List SC → List SC → Prop} {p : Prop} (h : aggC v w k p) : p ∨ ∃ cs ds, v = .mk true cs ∧ w = .mk true ds ∧ k cs ds := by
  unfold aggC at h
  split at h
  · exact .inr ⟨_, _, rfl, rfl, h⟩
  · exact .inl h

theorem sem_eqAgg (hS : StatOK P S) (m : Mt P glb Bk X0 w0 st ρ a W) {op : BinOp} {t t' : TypeId} {x y : Operand} (hop : o.op = .binOp op t x y t') {cs ds : List SC} (hc : RepV P ρ (Xs st ρ X0) W (.mk true cs) (a.eval x)) (hd : RepV P ρ (Xs st ρ X0) W (.mk true ds) (a.eval y))
    (h : eqAgg (S.eq t) op cs ds fun r => Q r []) : OpOut P o a W (Fits P glb Bk X0 w0 st ρ a W Q) := by
  obtain ⟨n, hn, h1⟩ := optK_ok h
  obtain ⟨hl, h2⟩ := chk_iff.1 h1
  simp only [Bool.and_eq_true] at hl
  have hl1 := Nat.eq_of_beq_eq_true hl.1
  have hl2 := Nat.eq_of_beq_eq_true hl.2
  obtain ⟨b, hb, h3⟩ := optK_ok h2
  obtain ⟨us, hx, hu⟩ := hc
  obtain ⟨vs, hy, hv⟩ := hd
  obtain ⟨fs, ht, hsz, hsh, hgd, hfs⟩ := hS.eq t n hn
  obtain ⟨ps, qs, e1, e2, e3, e4, e5⟩ := eqIs_ok hb hu hv
  have hlu := hu.length
  have hlv := hv.length
  have hps : ps.length = n := by rw [← hl1, ← hlu, e1, List.length_map]
  have hfo : P.fieldsOf t = fs := by simp [Program.fieldsOf, ht]
  have ht' : P.underlying t = some (.struct (P.fieldsOf t)) := by rw [hfo]; exact ht
  have hrun : (Op.equalIn 10000 t (.agg us.toArray) (.agg vs.toArray)).run P W = .ok b W := by
    rw [run_equalIn_struct W 9999 t _ _ ht' hsh, hfo, e5]
    refine eqFields_ok 9998 _ _ W fs.toList ps qs 0 (by simp [hps, hsz]) (by simp [← e3, hps, hsz]) (fun j fd hj => ?_) (fun j p hj => ?_) (fun j p hj => ?_) e4
    · have := hfs j fd (by simpa using hj)
      simpa using this
    · rw [Nat.zero_add, e1]; simp [hj]
    · rw [Nat.zero_add, e2]; simp [hj]
  have hg : ∀ op, (eqGuard op t x y (.agg us.toArray) (.agg vs.toArray)).run P W = .ok () W := fun op => run_eqGuard_agg W op t x y _ _ hgd
  have run : ∀ v, (binOp op t (.agg us.toArray) (.agg vs.toArray)).run P W = .ok v W → (execOp a.eval o).run P W = .ok (.value v) W := by
    intro v hv
    refine exec_v (s := do eqGuard op t x y (a.eval x) (a.eval y); binOp op t (a.eval x) (a.eval y)) (by unfold execOp; rw [hop]) ?_
    rw [hx, hy, Sem.run_bind, hg]; exact hv
  cases op <;> first | exact h3.elim | skip
  case eql => exact .plain m (run (.bool b) (by rw [run_eql_struct, hrun]; rfl)) h3 (rep_bool _)
  case neq => exact .plain m (run (.bool (!b)) (by rw [run_neq_struct, hrun]; rfl)) h3 (rep_bool _)

theorem sem_bin (hS : StatOK P S) (hg : S.glb = glb) (m : Mt P glb Bk X0 w0 st ρ a W) {op : BinOp} {t t' : TypeId} {x y : Operand} (hop : o.op = .binOp op t x y t')
    (h : aggC (ev S st t x) (ev S st t' y) (fun cs ds => eqAgg (S.eq t) op cs ds fun r => Q r []) <| oneC (ev S st t x) fun c => oneC (ev S st t' y) fun d => binS dr (isBoolT (S.ty t)) (S.sl t).isSome st.look op c d fun r => Q r []) : OpOut P o a W (Fits P glb Bk X0 w0 st ρ a W Q) := by
  rcases aggC_ok h with h | ⟨cs, ds, h1, h2, h3⟩
  · exact sem_bin0 hS hg m hop h
  · exact sem_eqAgg hS m hop (by rw [← h1]; exact ev_ok hS hg m t x) (by rw [← h2]; exact ev_ok hS hg m t' y) h3

theorem sem_convert (hS : StatOK P S) (hg : S.glb = glb) (m : Mt P glb Bk X0 w0 st ρ a W) {t0 t : TypeId} {x : Operand} (hop : o.op = .convert t0 t x)
    (h : optK (S.ty t0) fun _ => optK (S.ty t) fun i => oneI (ev S st t0 x) fun n => cvtS i.kd n fun r => Q r []) : OpOut P o a W (Fits P glb Bk X0 w0 st ρ a W Q) := by
  obtain ⟨i0, hi0, h1⟩ := optK_ok h
  obtain ⟨i, hi, h2⟩ := optK_ok h1
  obtain ⟨k0, n, h3, hx⟩ := oneI_ok h2 (ev_ok hS hg m t0 x)
  obtain ⟨kd, bytes⟩ := i
  cases kd with
  | int k =>
    have hu := hS.int t k bytes hi
    have hik : P.intKind t = k := by simp [Program.intKind, hu]
    refine .plain m (v := .int k (k.wrap n)) (exec_v (s := convert t0 t (a.eval x)) (by unfold execOp; rw [hop]) ?_) h3 (rep_int _ _)
    have := run_convert_int (P := P) W t0 t k0 n (hS.dfd t0 i0 hi0) (by rw [hik]; exact hu)
    rw [hik] at this
    rw [hx]; exact this
  | _ => exact h3.elim

theorem sem_un (hS : StatOK P S) (hg : S.glb = glb) (m : Mt P glb Bk X0 w0 st ρ a W) {op : UnOp} {t : TypeId} {x : Operand} (hop : o.op = .unOp op t x) (h : oneC (ev S st o.type x) fun c => unS op c fun r => Q r []) : OpOut P o a W (Fits P glb Bk X0 w0 st ρ a W Q) := by
  obtain ⟨c, h, hc⟩ := oneC_ok h (ev_ok hS hg m _ x)
  cases op <;> cases c <;> try exact h.elim
  case not.d K x0 =>
    cases K <;> try exact h.elim
    obtain ⟨v, hv, _, h1⟩ := hc
    cases hv
    refine .plain m (exec_v (s := Op.unary .not (a.eval x)) (v := .bool (Bool.not x0)) (by unfold execOp; rw [hop]) ?_) h (rep_bool _)
    rw [show a.eval x = _ from h1]; rfl
  case neg.d K x0 =>
    cases K <;> try exact h.elim
    rename_i kk
    obtain ⟨v, hv, _, h1⟩ := hc
    cases hv
    refine .plain m (exec_v (s := Op.unary .neg (a.eval x)) (v := .int kk (kk.wrap (Int.sub 0 x0))) (by unfold execOp; rw [hop]) ?_) h (rep_int _ _)
    rw [show a.eval x = _ from h1]; rfl

theorem RepC.ptr_of_cells (m : Mt P glb Bk X0 w0 st ρ a W) {c c' : SC} {n : Nat} {v : Value} (h : moveP n c = some c') (hv : RepC P ρ (Xs st ρ X0) W c v) : ∃ ad : Addr, v = .pointer (some ad) ∧ RepC P ρ (Xs st ρ X0) W c' (.pointer (some (ad.add n))) := by
  have plainAdd : ∀ (b off i : Nat), (⟨b, off, none⟩ : Addr).add i = ⟨b, off + i, none⟩ := by
    intro b off i; unfold Addr.add; split <;> simp_all
  have addAdd : ∀ (ad : Addr) (i j : Nat), (ad.add i).add j = ad.add (i + j) := by
    intro ad i j
    unfold Addr.add
    by_cases hi : i = 0 <;> by_cases hj : j = 0 <;> simp [hi, hj, Nat.add_assoc]
  cases c with
  | ptr l off =>
    obtain ⟨b, hρ, rfl⟩ := hv
    cases h
    exact ⟨_, rfl, b, hρ, by rw [plainAdd]⟩
  | ep l j sz off =>
    obtain ⟨b, k, cc, hρ, rfl, hj⟩ := hv
    cases h
    exact ⟨_, rfl, b, k, cc, hρ, by rw [addAdd, Nat.add_assoc], hj⟩
  | dp K x off =>
    obtain ⟨ad, cs, rfl, h1, h2, h3, h4⟩ := hv
    cases h
    exact ⟨_, rfl, ad, cs, by rw [addAdd], h1, h2, h3, h4⟩
  | iep l vl j i sz off =>
    obtain ⟨us, ad, k, cc, hu, hj, rfl, hi, hl⟩ := hv
    cases h
    exact ⟨_, rfl, us, ad, k, cc, hu, hj, by rw [addAdd, Nat.add_assoc], hi, hl⟩
  | d K x =>
    cases K with
    | ptr t K =>
      cases h
      obtain ⟨v', hv', _, b, arr, rfl, hx, hb, hc⟩ := hv
      cases hv'
      refine ⟨_, rfl, ⟨b, 0, none⟩, arr.toList, rfl, hx, (Array.getElem?_eq_some_iff.1 hb).1, hc, fun i u hu => ?_⟩
      rw [plainAdd, cell_of_row W b (0 + i) arr t (0, 0) hb]
      simpa using hu
    | _ => cases h
  | _ => cases h

theorem run_sizeOf (hS : StatOK P S) {t : TypeId} {i : TI} (ht : S.ty t = some i) (W : World) : (sizeOf t).run P W = .ok i.kd.n W := by
  obtain ⟨_, ⟨inf, z, h1, h2, _⟩, _⟩ := hS.ty t i ht
  simp [sizeOf, typeInfo, h1, h2]

theorem sem_fieldAddr (hS : StatOK P S) (hg : S.glb = glb) (m : Mt P glb Bk X0 w0 st ρ a W) {t : TypeId} {x : Operand} {f : Nat} (hop : o.op = .fieldAddr t x f)
    (h : optK (S.fld t f) fun p => optK (S.ty p.2) fun i => chk (Nat.ble 1 i.kd.n) (oneC (ev S st t x) fun c => optK (moveP p.1 c) fun c' => Q (.mk false [c']) [])) : OpOut P o a W (Fits P glb Bk X0 w0 st ρ a W Q) := by
  obtain ⟨p, hp, h⟩ := optK_ok h
  obtain ⟨i, hi, h⟩ := optK_ok h
  obtain ⟨hn, h⟩ := chk_iff.1 h
  obtain ⟨c, h, hc⟩ := oneC_ok h (ev_ok hS hg m _ x)
  obtain ⟨c', hm, h⟩ := optK_ok h
  obtain ⟨fs, fd, hu, hf, ho, hty, _⟩ := hS.fld t f p hp
  obtain ⟨ad, he, hr⟩ := hc.ptr_of_cells m hm
  have hn' : i.kd.n ≠ 0 := by have := Nat.le_of_ble_eq_true hn; omega
  refine .plain m (exec_v (s := Instr.fieldAt t (a.eval x) f) (v := .pointer (some (ad.add p.1))) (by unfold execOp; rw [hop]) ?_) h ⟨c', rfl, hr⟩
  have hsz := run_sizeOf hS hi W
  rw [← hty] at hsz
  simp [Instr.fieldAt, run_underlying hu, hf, he, Instr.sureAddr, fieldPlace, hsz, hn', ho]
end
end Go.GX
set_option linter.unusedVariables false
namespace Go.GX
open Go.RowKit Go.Shelf Go.Proofs

section
variable {P : Program} {glb : Nat → Option GV} {Bk X0 : Nat → Prop} {w0 : World} {st : St} {ρ : Lab} {a : Act} {W W' : World} {S : Stat} {dr : Bool} {lab : Nat} {o : Oper} {Q : Eff}

theorem kd_n_one {K : Kd} (h : K.arg = true) (h' : K.isAgg = false) : K.n = 1 := by
  cases K <;> first | rfl | (simp [Kd.arg] at h; done) | (simp [Kd.isAgg] at h'; done)

theorem sem_load (hS : StatOK P S) (hg : S.glb = glb) (m : Mt P glb Bk X0 w0 st ρ a W) {t : TypeId} {x : Operand} (hop : o.op = .load t x)
    (h : optK (S.ty t) fun i => oneC (ev S st t x) fun c => optK (cellsAt st.look c) fun cs => chk (Nat.ble i.kd.n cs.length) (Q (.mk i.kd.isAgg (cs.take i.kd.n)) [])) : OpOut P o a W (Fits P glb Bk X0 w0 st ρ a W Q) := by
  obtain ⟨i, hi, h⟩ := optK_ok h
  obtain ⟨c, h, hc⟩ := oneC_ok h (ev_ok hS hg m _ x)
  obtain ⟨cs, hcs, h⟩ := optK_ok h
  obtain ⟨hn, h⟩ := chk_iff.1 h
  have hn := Nat.le_of_ble_eq_true hn
  obtain ⟨ad, us, he, hr, hcell⟩ := cellsAt_ok m hcs hc
  have hlen := hr.length
  have hsz := run_sizeOf hS hi W
  obtain ⟨harg, _, hagg⟩ := hS.ty t i hi
  have hagg := hagg W
  have hr' := hr.take i.kd.n
  cases hb : i.kd.isAgg with
  | true =>
    rw [hb] at h hagg
    have hl : (loadCells ad (us.take i.kd.n).length).run P W = .ok (us.take i.kd.n).toArray W := run_loadCells_list W ad _ (fun j v hv => by
      rw [List.getElem?_take] at hv
      split at hv
      · exact hcell j v hv
      · cases hv)
    rw [List.length_take, Nat.min_eq_left (by omega)] at hl
    refine .plain m (exec_v (s := Instr.loadAt t (a.eval x)) (v := .agg (us.take i.kd.n).toArray) (by unfold execOp; rw [hop]) ?_) h ⟨_, rfl, hr'⟩
    simp only [Instr.loadAt, he, Instr.sureAddr, loadVar, Sem.run_bind, Sem.run_pure, Result.andThen_ok, hagg, if_true, hsz, hl]
  | false =>
    rw [hb] at h hagg
    have h1 := kd_n_one harg hb
    rw [h1] at h hn hr'
    cases us with
    | nil => simp at hlen; omega
    | cons u us =>
      cases cs with
      | nil => simp at hn
      | cons c0 cs =>
        obtain ⟨v0, vs0, hv0, hrc, _⟩ := hr
        cases hv0
        have hc0 := hcell 0 u rfl
        rw [addZero] at hc0
        refine .plain m (exec_v (s := Instr.loadAt t (a.eval x)) (v := u) (by unfold execOp; rw [hop]) ?_) h ⟨c0, rfl, hrc⟩
        simp [Instr.loadAt, he, Instr.sureAddr, loadVar, hagg, run_load, hc0]

theorem sem_field (hS : StatOK P S) (hg : S.glb = glb) (m : Mt P glb Bk X0 w0 st ρ a W) {t : TypeId} {x : Operand} {f : Nat} (hop : o.op = .field t x f)
    (h : optK (S.fld t f) fun p => optK (S.ty p.2) fun i => match ev S st t x with
      | .mk true cs => chk (Nat.ble (p.1 + i.kd.n) cs.length) (Q (.mk i.kd.isAgg ((cs.drop p.1).take i.kd.n)) [])
      | _ => False) : OpOut P o a W (Fits P glb Bk X0 w0 st ρ a W Q) := by
  obtain ⟨p, hp, h⟩ := optK_ok h
  obtain ⟨i, hi, h⟩ := optK_ok h
  have hev := ev_ok hS hg m t x
  split at h
  · rename_i cs hcs
    rw [hcs] at hev
    obtain ⟨us, he, hr⟩ := hev
    obtain ⟨hn, h⟩ := chk_iff.1 h
    have hn := Nat.le_of_ble_eq_true hn
    obtain ⟨fs, fd, hu, hf, ho, hty, _⟩ := hS.fld t f p hp
    have hlen := hr.length
    have hsz := run_sizeOf hS hi W
    obtain ⟨harg, _, hagg⟩ := hS.ty _ i hi
    have hagg := hagg W
    have hr' := (hr.drop p.1).take i.kd.n
    cases hb : i.kd.isAgg with
    | true =>
      rw [hb] at h hagg
      have hex : us.toArray.extract p.1 (p.1 + i.kd.n) = ((us.drop p.1).take i.kd.n).toArray := by
        apply Array.ext'
        simp
      refine .plain m (exec_v (s := Instr.field t (a.eval x) f) (v := .agg ((us.drop p.1).take i.kd.n).toArray) (by unfold execOp; rw [hop]) ?_) h ⟨_, rfl, hr'⟩
      simp only [Instr.field, run_underlying hu, hf, he, asAgg, part, hty, Sem.run_bind, Sem.run_pure, Result.andThen_ok, hagg, if_true, hsz, ho, hex]
    | false =>
      rw [hb] at h hagg
      have h1 := kd_n_one harg hb
      rw [h1] at h hn hr'
      have hlt : p.1 < us.length := by omega
      have hus : us[p.1]? = some us[p.1] := List.getElem?_eq_getElem hlt
      have hdt : (us.drop p.1).take 1 = [us[p.1]] := by
        rw [List.drop_eq_getElem_cons hlt]; rfl
      have hlt' : p.1 < cs.length := by omega
      have hdc : (cs.drop p.1).take 1 = [cs[p.1]] := by
        rw [List.drop_eq_getElem_cons hlt']; rfl
      rw [hdt, hdc] at hr'
      rw [hdc] at h
      obtain ⟨v0, vs0, hv0, hrc, _⟩ := hr'
      cases hv0
      refine .plain m (exec_v (s := Instr.field t (a.eval x) f) (v := us[p.1]) (by unfold execOp; rw [hop]) ?_) h ⟨_, rfl, hrc⟩
      simp [Instr.field, run_underlying hu, hf, he, asAgg, part, hty, hagg, ho, hus]
  · exact h.elim

theorem xl_false {k : Nat} : Xs st ρ X0 k → Xl st ρ X0 (fun _ => false) k := by
  rintro (h | ⟨l, he, s, v, h1, h2, h3⟩)
  · exact .inl h
  · exact .inr ⟨l, he, s, v, rfl, h1, h2, h3⟩

theorem slData_plain (m : Mt P glb Bk X0 w0 st ρ a W) {c : SC} {K : Kd} {xs : List K.T} {ls : List Nat} {v : Value} (hc : ∀ l, c ≠ .own l) (hc2 : ∀ l vl j, c ≠ .inn l vl j) (hc3 : ∀ l lo hi sz, c ≠ .sub l lo hi sz) (h : slData st.look c = some ⟨K, xs, ls⟩) (hv : RepC P ρ (Xs st ρ X0) W c v) :
    ∀ e : TypeId, ((Kd.sl e K).sem P).val (Xs st ρ X0) W xs v := by
  intro e
  have hls : ls = [] := by
    cases c with
    | own l => exact absurd rfl (hc l)
    | inn l vl j => exact absurd rfl (hc2 l vl j)
    | sub l lo hi sz => exact absurd rfl (hc3 l lo hi sz)
    | d K x => cases K <;> (simp only [slData, Option.some.injEq] at h; try cases h) <;> rfl
    | fr e K xs => cases h; rfl
    | nl e K => cases h; rfl
    | _ => cases h
  subst hls
  have := slData_ok m h hv (fun _ => false) (by simp) e
  exact (Kd.stands P (.sl e K)).val (Evo.mono m.Xlt (fun k => xl_false)) this

theorem run_indexAt (t e : TypeId) (ad : Addr) (len cap : Nat) (k : IntKind) (j : Int) (n : Nat) (ht : P.underlying t = some (.slice e)) (hs : (sizeOf e).run P W = .ok n W) (h0 : 0 ≤ j) (h1 : j < len) :
    (Instr.indexAt t (.slice (some ad) len cap) (.int k j)).run P W = .ok (.pointer (some (ad.add (j.toNat * n)))) W := by
  simp [Instr.indexAt, asIntOf, run_underlying ht, h0, h1, hs]

theorem sem_indexAddrS (hS : StatOK P S) (hg : S.glb = glb) (m : Mt P glb Bk X0 w0 st ρ a W) {t : TypeId} {x ix : Operand} (hop : o.op = .indexAddr t x ix)
    (h : optK (S.sl t) fun e => optK (S.ty e) fun i => oneC (ev S st t x) fun c => oneI (ev S st 0 ix) fun j => idxS st.look i.kd.n c j Q) : OpOut P o a W (Fits P glb Bk X0 w0 st ρ a W Q) := by
  obtain ⟨e, he, h1⟩ := optK_ok h
  clear h
  obtain ⟨i, hi, h⟩ := optK_ok h1
  clear h1
  obtain ⟨c, hh, hc⟩ := oneC_ok h (ev_ok hS hg m _ x)
  clear h
  obtain ⟨k, j, h, hj⟩ := oneI_ok hh (ev_ok hS hg m _ ix)
  clear hh
  have ht := hS.sl t e he
  have hsz := run_sizeOf hS hi W
  have run : ∀ ad len cap, a.eval x = .slice (some ad) len cap → 0 ≤ j → j < (len : Nat) → (execOp a.eval o).run P W = .ok (.value (.pointer (some (ad.add (j.toNat * i.kd.n))))) W := by
    intro ad len cap hx h0 h1
    refine exec_v (s := Instr.indexAt t (a.eval x) (a.eval ix)) (by unfold execOp; rw [hop]) ?_
    rw [hx, hj]
    exact run_indexAt t e ad len cap k j _ ht hsz h0 h1
  have dat : ∀ (K : Kd) (xs : List K.T), ((Kd.sl e K).sem P).val (Xs st ρ X0) W xs (a.eval x) → K.n = i.kd.n → 0 ≤ j → j < (xs.length : Int) → Q (.mk false [.dp K (xs.getD j.toNat K.dflt) 0]) [] → OpOut P o a W (Fits P glb Bk X0 w0 st ρ a W Q) := by
    intro K xs hv hn h0 h1 hQ
    obtain ⟨A, cc, hx, _, _, hr⟩ := hv
    obtain ⟨ad, rfl, hnx, hlt, hget⟩ := hr (by intro h; subst h; simp at h1; omega)
    have hjl : j.toNat < xs.length := by omega
    have hxj : xs[j.toNat]? = some (xs.getD j.toNat K.dflt) := by rw [List.getD_eq_getElem?_getD, List.getElem?_eq_getElem hjl]; rfl
    obtain ⟨ecs, g1, g2⟩ := hget _ _ hxj
    refine .plain m (run ad _ _ hx h0 h1) hQ ⟨_, rfl, ad.add (j.toNat * i.kd.n), ecs, by rw [addZero], ?_, ?_, g1, fun p u hu => ?_⟩
    · rw [add_block]; exact hnx
    · rw [add_block]; exact hlt
    · rw [addAdd, ← hn]; exact g2 p u hu
  unfold idxS at h
  split at h
  · rename_i l
    obtain ⟨hρ, _⟩ := hc
    split at h
    · rename_i nn e' K xs hl
      obtain ⟨hn, h0, h1, hQ⟩ := chk_iff.1 h
      have hn := Nat.eq_of_beq_eq_true hn
      obtain ⟨s, hs⟩ := look_some hl
      obtain ⟨A, cc, hx, _, _, hr⟩ := m.rowElems hs hρ
      obtain ⟨g, rfl, _⟩ := hr (by intro h; subst h; simp at h1; omega)
      rw [hx] at hρ
      refine .plain m (run _ _ _ hx h0 h1) hQ ⟨_, rfl, _, xs.length, cc, hρ, ?_, by omega⟩
      rw [← hn, Nat.add_zero]
    · rename_i nn e' K xs hl
      obtain ⟨hn, h0, h1, hQ⟩ := chk_iff.1 h
      have hn := Nat.eq_of_beq_eq_true hn
      obtain ⟨s, hs⟩ := look_some hl
      obtain ⟨v', hv', hok⟩ := m.hps l _ s hs
      rw [hρ] at hv'; injection hv' with hv'; subst hv'
      exact dat K xs hok.1 hn h0 h1 hQ
    · rename_i e' K xs hl
      obtain ⟨hn, h0, h1, hQ⟩ := chk_iff.1 h
      have hn := Nat.eq_of_beq_eq_true hn
      obtain ⟨s, hs⟩ := look_some hl
      obtain ⟨v', hv', hok⟩ := m.hps l _ s hs
      rw [hρ] at hv'; injection hv' with hv'
      rw [← hv'] at hok
      obtain ⟨hf, A, cc, hx, _, _, hr⟩ := hok
      obtain ⟨ad, rfl, _⟩ := hr (by intro h; subst h; simp at h1; omega)
      rw [hx] at hρ
      refine .plain m (run _ _ _ hx h0 h1) hQ ⟨_, rfl, _, xs.length, cc, hρ, ?_, by omega⟩
      rw [← hn, Nat.add_zero]
    · rename_i nn e' ag e1 K1 xs hole vl hl
      obtain ⟨hn, h0, h1, hQ⟩ := chk_iff.1 h
      have hn := Nat.eq_of_beq_eq_true hn
      obtain ⟨s, hs⟩ := look_some hl
      obtain ⟨v', hv', ⟨us, hu, mo⟩, _⟩ := m.hps l _ s hs
      rw [hρ] at hv'; injection hv' with hv'
      rw [← hv'] at mo
      obtain ⟨hd, ⟨_, ho⟩, _⟩ := mo.out
      rcases ho with ⟨_, hx⟩ | ⟨g, cap, cur, hx, _⟩
      · omega
      · rw [hx] at hρ
        refine .plain m (run _ _ _ hx h0 h1) hQ ⟨_, rfl, _, xs.length, cap, hρ, ?_, by omega⟩
        rw [← hn, Nat.add_zero]
    · exact h.elim
  · rename_i l vl j0
    obtain ⟨us, hu, hj0, _, hil⟩ := hc
    split at h
    · rename_i nn e' ag e1 K1 xs vl' hl
      obtain ⟨hn, h0, h1, hQ⟩ := chk_iff.1 h
      simp only [Bool.and_eq_true] at hn
      obtain rfl := Nat.eq_of_beq_eq_true hn.1
      have hn := Nat.eq_of_beq_eq_true hn.2
      obtain ⟨s, hs⟩ := look_some hl
      obtain ⟨v', hv', ⟨us', hu', mo⟩, _⟩ := m.hps l _ s hs
      rw [hu] at hu'
      obtain rfl := tuple_inj hu'
      have hlt : j0 < xs.length := by rw [← mo.len]; exact (List.getElem?_eq_some_iff.1 hj0).1
      have hxj : xs[j0]? = some (xs.getD j0 []) := by rw [List.getD_eq_getElem?_getD, List.getElem?_eq_getElem hlt]; rfl
      obtain ⟨fl, ⟨_, ho⟩, _⟩ := mo.inr j0 _ _ hj0 hxj rfl
      rcases ho with ⟨_, hx⟩ | ⟨g, cap, cur, hx, _⟩
      · omega
      · refine .plain m (run _ _ _ hx h0 h1) hQ ⟨_, rfl, us, ⟨g, 0, none⟩, _, cap, hu, by rw [hj0, hx], ?_, by omega, hil⟩
        rw [← hn, Nat.add_zero]
    · exact h.elim
  · exact h.elim
  · rename_i hno hno2 hno3
    obtain ⟨d, hd, h⟩ := optK_ok h
    obtain ⟨K, xs, ls⟩ := d
    obtain ⟨hn, h0, h1, hQ⟩ := chk_iff.1 h
    exact dat K xs (slData_plain m hno hno2 hno3 hd hc e) (Nat.eq_of_beq_eq_true hn) h0 h1 hQ

theorem RepT.get {X : Nat → Prop} : ∀ {l vs}, RepT P ρ X W l vs → ∀ (i : Nat) p, l[i]? = some p → ∃ v, vs[i]? = some v ∧ RepV1 P ρ X W p.1 p.2 v
  | c :: r, _, ⟨v, vs', h, h1, h2⟩, 0, d, hd => by
    rw [h]
    simp only [List.getElem?_cons_zero, Option.some.injEq] at hd ⊢
    subst hd
    exact ⟨v, rfl, h1⟩
  | c :: r, _, ⟨v, vs', h, h1, h2⟩, i + 1, d, hd => by
    rw [h]
    simp only [List.getElem?_cons_succ] at hd ⊢
    exact RepT.get h2 i d hd

theorem sem_extract (hS : StatOK P S) (hg : S.glb = glb) (m : Mt P glb Bk X0 w0 st ρ a W) {x : Operand} {ix : Nat} (hop : o.op = .extract x ix)
    (h : match ev S st 0 x with
      | .tup vs => match vs[ix]? with
        | some p => Q (.mk p.1 p.2) []
        | none => False
      | _ => False) : OpOut P o a W (Fits P glb Bk X0 w0 st ρ a W Q) := by
  have hev := ev_ok hS hg m 0 x
  split at h
  · rename_i vs hvs
    rw [hvs] at hev
    obtain ⟨us, he, hr⟩ := hev
    split at h
    · rename_i p hp
      obtain ⟨v, hv, hrv⟩ := hr.get ix p hp
      refine .plain m (exec_v (s := Instr.extract (a.eval x) ix) (v := v) (by unfold execOp; rw [hop]) ?_) h hrv
      rw [he]
      simp [Instr.extract, hv]
    · exact h.elim
  · exact h.elim

theorem capsOf_ok {X : Nat → Prop} : ∀ (ss : List SV) (cs : List Cap) (vs : List Value), capsOf ss = some cs → RepVs P ρ X W ss vs → RepCaps P ρ X W cs vs
  | [], cs, vs, h, hv => by cases h; exact hv
  | .mk false [.ptr l 0] :: r, cs, vs, h, ⟨v, vs', hvs, h1, h2⟩ => by
    simp only [capsOf] at h
    cases hr : capsOf r with
    | none => rw [hr] at h; cases h
    | some cs' =>
      rw [hr] at h
      cases h
      obtain ⟨c, hc, hcc⟩ := h1
      cases hc
      obtain ⟨b, hρ, hv⟩ := hcc
      exact ⟨v, vs', by assumption, ⟨by rw [hρ, hv], b, hv⟩, capsOf_ok r cs' vs' hr h2⟩
  | .mk false [.d (.ptr t K) x] :: r, cs, vs, h, ⟨v, vs', hvs, h1, h2⟩ => by
    simp only [capsOf] at h
    cases hr : capsOf r with
    | none => rw [hr] at h; cases h
    | some cs' =>
      rw [hr] at h
      cases h
      obtain ⟨c, hc, hcc⟩ := h1
      cases hc
      exact ⟨v, vs', hvs, val_of_cells hcc rfl rfl, capsOf_ok r cs' vs' hr h2⟩

theorem evs_ok (hS : StatOK P S) (hg : S.glb = glb) (m : Mt P glb Bk X0 w0 st ρ a W) (t : TypeId) : ∀ (xs : List Operand), RepVs P ρ (Xs st ρ X0) W (xs.map (ev S st t)) (xs.map a.eval)
  | [] => rfl
  | x :: r => ⟨_, _, rfl, ev_ok hS hg m t x, evs_ok hS hg m t r⟩

theorem sem_makeFunc (hS : StatOK P S) (hg : S.glb = glb) (m : Mt P glb Bk X0 w0 st ρ a W) {f : FuncId} {fi caps : Array Operand} (hop : o.op = .makeFunc (.func f) fi caps)
    (h : chk (Nat.beq fi.toList.length 0) (optK (capsOf (caps.toList.map (ev S st 0))) fun cs => Q (.mk false [.clo f cs]) [])) : OpOut P o a W (Fits P glb Bk X0 w0 st ρ a W Q) := by
  obtain ⟨hn, h⟩ := chk_iff.1 h
  obtain ⟨cs, hcs, h⟩ := optK_ok h
  have hfi : fi = #[] := by
    have := Nat.eq_of_beq_eq_true hn
    apply Array.ext'
    simpa using this
  have hr := capsOf_ok _ cs _ hcs (evs_ok hS hg m 0 caps.toList)
  refine .plain m (exec_v (s := Instr.makeFunc (.func f) (fi.map a.eval) (caps.map a.eval)) (v := .func (.func f) #[] (caps.toList.map a.eval).toArray) (by unfold execOp; rw [hop]) ?_) h ⟨_, rfl, _, rfl, hr⟩
  subst hfi
  have : (caps.toList.map a.eval).toArray = caps.map a.eval := by apply Array.ext'; simp
  rw [this]
  simp [Instr.makeFunc]

theorem sem_len (hS : StatOK P S) (hg : S.glb = glb) (m : Mt P glb Bk X0 w0 st ρ a W) {cl : Call} {x : Operand} {t : TypeId} (hop : o.op = .call cl) (hc1 : cl.callee = .builtin .len) (hc2 : cl.args.toList = [x]) (hc3 : cl.argTypes.toList = [t])
    (h : optK (S.sl t) fun _ => oneC (ev S st t x) fun c => optK (slData st.look c) fun d => lenS dr d.2.1.length (Q (intSV .i64 (d.2.1.length : Int)) [])) : OpOut P o a W (Fits P glb Bk X0 w0 st ρ a W Q) := by
  obtain ⟨e, he, h⟩ := optK_ok h
  obtain ⟨c, h, hc⟩ := oneC_ok h (ev_ok hS hg m _ x)
  obtain ⟨d, hd, h⟩ := optK_ok h
  obtain ⟨K, xs, ls⟩ := d
  obtain ⟨A, cc, hx, hl1, hl2, _⟩ := slData_ok m hd hc (fun _ => true) (fun _ _ => rfl) e
  have h : Q (intSV .i64 (xs.length : Int)) [] := by
    cases dr with
    | true => exact h
    | false => exact h (by unfold maxLen at hl2; simp only at hl1 ⊢; omega)
  have ha : cl.args = #[x] := Array.ext' hc2
  have hat : cl.argTypes = #[t] := Array.ext' hc3
  refine .plain m (v := .int .i64 xs.length) ?_ h (rep_int _ _)
  unfold execOp
  rw [hop]
  simp [resolve, hc1, invoke, builtin, ha, hat, hx, Builtin.len_, run_underlying (hS.sl t e he), goInt]

theorem sem_max (hS : StatOK P S) (hg : S.glb = glb) (m : Mt P glb Bk X0 w0 st ρ a W) {cl : Call} {x y : Operand} (hop : o.op = .call cl) (hc1 : cl.callee = .builtin .max) (hc2 : cl.args.toList = [x, y])
    (h : oneIK (ev S st o.type x) fun q a => oneI (ev S st o.type y) fun b => Q (intSV q (mxI a b)) []) : OpOut P o a W (Fits P glb Bk X0 w0 st ρ a W Q) := by
  obtain ⟨k, p, h, hx⟩ := oneIK_ok h (ev_ok hS hg m _ x)
  obtain ⟨k', q, h, hy⟩ := oneI_ok h (ev_ok hS hg m _ y)
  have ha : cl.args = #[x, y] := Array.ext' hc2
  refine .plain m (v := .int k (mxI p q)) ?_ h (rep_int _ _)
  unfold execOp
  rw [hop]
  simp [resolve, hc1, invoke, builtin, ha, hx, hy, Builtin.max_, Builtin.max2, mxI]

theorem sem_min (hS : StatOK P S) (hg : S.glb = glb) (m : Mt P glb Bk X0 w0 st ρ a W) {cl : Call} {x y : Operand} (hop : o.op = .call cl) (hc1 : cl.callee = .builtin .min) (hc2 : cl.args.toList = [x, y])
    (h : oneIK (ev S st o.type x) fun q a => oneI (ev S st o.type y) fun b => Q (intSV q (mnI a b)) []) : OpOut P o a W (Fits P glb Bk X0 w0 st ρ a W Q) := by
  obtain ⟨k, p, h, hx⟩ := oneIK_ok h (ev_ok hS hg m _ x)
  obtain ⟨k', q, h, hy⟩ := oneI_ok h (ev_ok hS hg m _ y)
  have ha : cl.args = #[x, y] := Array.ext' hc2
  refine .plain m (v := .int k (mnI p q)) ?_ h (rep_int _ _)
  unfold execOp
  rw [hop]
  simp [resolve, hc1, invoke, builtin, ha, hx, hy, Builtin.min_, Builtin.min2, mnI]

theorem zc_ok {X : Nat → Prop} : ∀ (K : Kd), RepCs P ρ X W K.zc K.zv
  | .pair A B => (zc_ok A).append (zc_ok B)
  | .unit => rfl
  | .agg K => zc_ok K
  | .int k => ⟨_, [], rfl, ⟨_, rfl, rfl, rfl⟩, rfl⟩
  | .bool => ⟨_, [], rfl, ⟨_, rfl, rfl, rfl⟩, rfl⟩
  | .str => ⟨_, [], rfl, ⟨_, rfl, rfl, rfl⟩, rfl⟩
  | .sl _ _ => ⟨_, [], rfl, rfl, rfl⟩
  | .nsl _ _ => ⟨_, [], rfl, rfl, rfl⟩
  | .fn _ _ => ⟨_, [], rfl, ⟨rfl, rfl⟩, rfl⟩
  | .ptr _ _ => ⟨_, [], rfl, ⟨rfl, rfl⟩, rfl⟩
  | .seq _ => ⟨_, [], rfl, ⟨rfl, rfl⟩, rfl⟩

theorem zv_length : ∀ (K : Kd), K.zv.length = K.n
  | .pair A B => by simp [Kd.zv, Kd.n, zv_length A, zv_length B]
  | .unit => rfl
  | .agg K => zv_length K
  | .int k => rfl
  | .bool => rfl
  | .str => rfl
  | .sl _ _ => rfl
  | .nsl _ _ => rfl
  | .fn _ _ => rfl
  | .ptr _ _ => rfl
  | .seq _ => rfl

theorem splice_length {α : Type} (cs : List α) (off : Nat) (ds : List α) (h : off + ds.length ≤ cs.length) : (splice cs off ds).length = cs.length := by
  simp [splice]; omega

theorem foldl_set (off : Nat) : ∀ (vs : List Value) (k : Nat) (cells : Array Value), off + k + vs.length ≤ cells.size →
    ((vs.zipIdx k).foldl (fun cs p => cs.setIfInBounds (off + p.2) p.1) cells).toList = splice cells.toList (off + k) vs
  | [], k, cells, _ => by simp [splice]
  | v :: r, k, cells, h => by
    simp only [List.zipIdx_cons, List.foldl_cons]
    rw [foldl_set off r (k + 1) _ (by simp at h ⊢; omega)]
    have hi : off + k < cells.toList.length := by simp at h ⊢; omega
    have e := list_seg_step cells.toList (off + k) v r (by simp at h ⊢; omega)
    simpa [splice, Array.toList_setIfInBounds, Nat.add_assoc, Nat.add_comm, Nat.add_left_comm] using e

theorem fill_set (off : Nat) (v : Value) (cells : Array Value) (h : off + v.cells.size ≤ cells.size) :
    (v.cells.zipIdx.foldl (fun cs (p : Value × Nat) => cs.setIfInBounds (off + p.2) p.1) cells).toList = splice cells.toList off v.cells.toList := by
  have := foldl_set off v.cells.toList 0 cells (by simpa using h)
  rw [Nat.add_zero] at this
  rw [← this, ← Array.foldl_toList, Array.toList_zipIdx]

theorem fill_ok {X : Nat → Prop} (place : Nat → Option (Nat × Nat)) (n : Nat) : ∀ (parts : List (Nat × Value)) (ps : List (Nat × List SC)) (cs : List SC) (cells : Array Value),
    parts.length = ps.length → (∀ (j : Nat) p q, parts[j]? = some p → ps[j]? = some q → place p.1 = some (q.1, q.2.length) ∧ q.1 + q.2.length ≤ n ∧ RepCs P ρ X W q.2 p.2.cells.toList) → cells.size = n → RepCs P ρ X W cs cells.toList →
    ∃ out, Instr.fill place cells parts = some out ∧ RepCs P ρ X W (fldCells ps cs) out.toList
  | [], ps, cs, cells, hl, _, hn, hr => by
    cases ps with
    | nil => exact ⟨cells, rfl, hr⟩
    | cons _ _ => simp at hl
  | p :: parts, ps, cs, cells, hl, hp, hn, hr => by
    cases ps with
    | nil => simp at hl
    | cons q ps =>
      obtain ⟨h1, h2, h3⟩ := hp 0 p q rfl rfl
      have hlen := h3.length
      simp only [Array.length_toList] at hlen
      have hset := fill_set q.1 p.2 cells (by omega)
      have hsz : (p.2.cells.zipIdx.foldl (fun cs (p : Value × Nat) => cs.setIfInBounds (q.1 + p.2) p.1) cells).size = n := by
        rw [← Array.length_toList, hset, splice_length _ _ _ (by simp; omega)]
        simpa using hn
      obtain ⟨out, ho, hr2⟩ := fill_ok place n parts ps (splice cs q.1 q.2) _ (by simpa using hl) (fun j p' q' h h' => hp (j + 1) p' q' (by simpa using h) (by simpa using h')) hsz (by rw [hset]; exact hr.splice q.1 h3)
      refine ⟨out, ?_, hr2⟩
      have hcond : (p.2.cells.size ≠ q.2.length || q.1 + p.2.cells.size > cells.size) = false := by simp; omega
      obtain ⟨i, v⟩ := p
      simp only [Instr.fill, h1]
      simp only at hcond
      rw [if_neg (by simpa using hcond)]
      exact ho

theorem partsS_ok (hS : StatOK P S) (hg : S.glb = glb) (m : Mt P glb Bk X0 w0 st ρ a W) (t : TypeId) (n : Nat) : ∀ (parts : List (Nat × Operand)) (k : List (Nat × List SC) → Prop), partsS S st t n parts k →
    ∃ ps : List (Nat × List SC), k ps ∧ ps.length = parts.length ∧ ∀ (j : Nat) p q, parts[j]? = some p → ps[j]? = some q →
      (∃ fs fd inf, P.underlying t = some (.struct fs) ∧ fs[p.1]? = some fd ∧ fd.offset = q.1 ∧ P.info? fd.type = some inf ∧ inf.size = q.2.length ∧ ∀ fd', fd' ∈ fs → (P.info? fd'.type).isSome = true) ∧ q.1 + q.2.length ≤ n ∧ RepCs P ρ (Xs st ρ X0) W q.2 (a.eval p.2).cells.toList
  | [], k, h => ⟨[], h, rfl, fun j p q hp => by simp at hp⟩
  | (i, x) :: r, k, h => by
    simp only [partsS] at h
    obtain ⟨f, hf, h⟩ := optK_ok h
    obtain ⟨ti, hti, h⟩ := optK_ok h
    obtain ⟨cs, h, hcs⟩ := cellsOf_ok h (ev_ok hS hg m f.2 x)
    obtain ⟨hb, h⟩ := chk_iff.1 h
    simp only [Bool.and_eq_true] at hb
    obtain ⟨ps, hk, hl, hget⟩ := partsS_ok hS hg m t n r _ h
    refine ⟨_, hk, by simp [hl], fun j p q hp hq => ?_⟩
    cases j with
    | zero =>
      simp only [List.getElem?_cons_zero, Option.some.injEq] at hp hq
      subst hp; subst hq
      obtain ⟨fs, fd, hu, hfd, ho, hty, hall⟩ := hS.fld t i f hf
      obtain ⟨_, ⟨inf, z, g1, g2, _⟩, _⟩ := hS.ty f.2 ti hti
      refine ⟨⟨fs, fd, inf, hu, hfd, ho, by rw [hty]; exact g1, ?_, hall⟩, Nat.le_of_ble_eq_true hb.2, hcs⟩
      rw [g2, ← Nat.eq_of_beq_eq_true hb.1]
    | succ j => exact hget j p q (by simpa using hp) (by simpa using hq)

theorem mapM_some {α β : Type} (f : α → Option β) : ∀ (l : List α), (∀ x, x ∈ l → (f x).isSome = true) → ∃ r, l.mapM f = some r ∧ ∀ (i : Nat) x, l[i]? = some x → r[i]? = f x
  | [], _ => ⟨[], rfl, fun i x h => by simp at h⟩
  | x :: l, h => by
    obtain ⟨r, hr, hg⟩ := mapM_some f l (fun y hy => h y (List.mem_cons_of_mem _ hy))
    obtain ⟨y, hy⟩ := Option.isSome_iff_exists.1 (h x (List.mem_cons_self))
    refine ⟨y :: r, by simp [List.mapM_cons, hy, hr], fun i z hz => ?_⟩
    cases i with
    | zero => simp only [List.getElem?_cons_zero, Option.some.injEq] at hz ⊢; subst hz; exact hy.symm
    | succ i => simpa using hg i z (by simpa using hz)

theorem sem_buildS (hS : StatOK P S) (hg : S.glb = glb) (m : Mt P glb Bk X0 w0 st ρ a W) {t : TypeId} {parts : Array (Nat × Operand)} (hop : o.op = .build t parts)
    (h : optK (S.ty t) fun i => partsS S st t i.kd.n parts.toList fun ps => chk (i.kd.isAgg && (S.fld t 0).isSome) (Q (.mk true (fldCells ps i.kd.zc)) [])) : OpOut P o a W (Fits P glb Bk X0 w0 st ρ a W Q) := by
  obtain ⟨i, hi, h⟩ := optK_ok h
  obtain ⟨ps, h, hl, hget⟩ := partsS_ok hS hg m t _ _ _ h
  obtain ⟨hb, h⟩ := chk_iff.1 h
  simp only [Bool.and_eq_true] at hb
  obtain ⟨harg, ⟨inf, z, g1, g2, _, g4, g5⟩, hagg⟩ := hS.ty t i hi

  have hstr : ∃ fs, P.underlying t = some (.struct fs) ∧ ∀ fd', fd' ∈ fs → (P.info? fd'.type).isSome = true := by
    obtain ⟨f, hf⟩ := Option.isSome_iff_exists.1 hb.2
    obtain ⟨fs, fd, hu, _, _, _, hall⟩ := hS.fld t 0 f hf
    exact ⟨fs, hu, hall⟩
  obtain ⟨fs, hu, hall⟩ := hstr
  obtain ⟨places, hpl, hplg⟩ := mapM_some (fun f : Field => (P.info? f.type).map fun i => (f.offset, i.size)) fs.toList (fun fd hfd => by
    have := hall fd (by simpa using hfd)
    simpa using this)
  have hzs : z.cells.size = i.kd.n := by rw [← Array.length_toList, g5, zv_length]
  obtain ⟨out, ho, hr⟩ := fill_ok (P := P) (ρ := ρ) (W := W) (X := Xs st ρ X0) (places.toArray[·]?) i.kd.n (parts.map fun (i, x) => (i, a.eval x)).toList ps i.kd.zc z.cells (by simp [hl]) (fun j p q hp hq => by
    simp only [Array.toList_map, List.getElem?_map, Option.map_eq_some_iff] at hp
    obtain ⟨p0, hp0, rfl⟩ := hp
    obtain ⟨⟨fs', fd, inf', hu', hfd, hoff, hinf, hsz, _⟩, hle, hrep⟩ := hget j p0 q hp0 hq
    rw [hu] at hu'; injection hu' with hu'; injection hu' with hu'; subst hu'
    refine ⟨?_, hle, hrep⟩
    have := hplg p0.1 fd (by simpa using hfd)
    rw [hinf] at this
    simp only [Option.map_some, hoff, hsz] at this
    simpa using this) hzs (by rw [g5]; exact zc_ok i.kd)
  have hbuilt : P.built t (parts.map fun (i, x) => (i, a.eval x)).toList = some out := by
    unfold Program.built
    rw [g1, hu]
    simp only [g4, hpl]
    exact ho
  exact .plain m (exec_v (s := Instr.build t (parts.map fun (i, x) => (i, a.eval x))) (v := .agg out) (by unfold execOp; rw [hop]) (run_build W t _ out hbuilt)) h ⟨out.toList, rfl, hr⟩
theorem mkOr_ok' {o : Option (TypeId × FuncId)} {k : TypeId × FuncId → Prop} {p : Prop} (h : mkOr o k p) : (∃ x, o = some x ∧ k x) ∨ p := by
  cases o with
  | none => exact .inr h
  | some x => exact .inl ⟨x, rfl, h⟩
theorem idxC_ok {j : Int} {F : Nat → Prop} : ∀ {m k : Nat}, idxC j F k m → ∃ i, k ≤ i ∧ i < k + m ∧ j = (i : Int) ∧ F i
  | 0, k, h => h.elim
  | m + 1, k, h => by
    unfold idxC at h
    cases hd : decide (j = (k : Int)) with
    | true =>
      rw [hd] at h
      exact ⟨k, Nat.le_refl _, by omega, of_decide_eq_true hd, h⟩
    | false =>
      rw [hd] at h
      obtain ⟨i, h1, h2, h3, h4⟩ := idxC_ok (m := m) (k := k + 1) h
      exact ⟨i, by omega, by omega, h3, h4⟩
theorem idxArr_ok (hS : StatOK P S) (hg : S.glb = glb) (m : Mt P glb Bk X0 w0 st ρ a W) {ix : Operand} {n : Nat} {F : Nat → Prop} (h : idxArr S st ix n F) : ∃ kk i, a.eval ix = .int kk ((i : Nat) : Int) ∧ i < n ∧ F i := by
  unfold idxArr at h
  split at h
  · rename_i kk z
    obtain ⟨hb, h⟩ := chk_iff.1 h
    simp only [Bool.and_eq_true, decide_eq_true_eq] at hb
    exact ⟨kk, z.toNat, by rw [Int.toNat_of_nonneg hb.1]; rfl, by omega, h⟩
  · obtain ⟨kk, j, ⟨h0, h1, h2⟩, hj⟩ := oneI_ok h (ev_ok hS hg m _ ix)
    obtain ⟨i, _, h3, rfl, h4⟩ := idxC_ok h2
    exact ⟨kk, i, hj, by omega, h4⟩
theorem idxPt_ok (hS : StatOK P S) (hg : S.glb = glb) (m : Mt P glb Bk X0 w0 st ρ a W) {ix : Operand} {n sz : Nat} {c : SC} {k : SC → Prop} {p : Prop} (h : idxPt S st ix n sz c k p) : (∃ l kk i, c = .ptr l 0 ∧ a.eval ix = .int kk ((i : Nat) : Int) ∧ i < n ∧ sz = 1 ∧ k (.pt l n (i : Nat))) ∨ p := by
  unfold idxPt at h
  split at h
  · rename_i l
    split at h
    · rename_i o ty cs hl
      cases hb : isTmp ix && Nat.beq sz 1 && Nat.ble n cs.length && (pickD 0 (cs.take n)).isSome with
      | false => rw [hb] at h; exact .inr h
      | true =>
        rw [hb] at h
        simp only [Bool.and_eq_true] at hb
        obtain ⟨kk, j, ⟨h0, h1, h2⟩, hj⟩ := oneI_ok (show oneI _ _ from h) (ev_ok hS hg m _ ix)
        refine .inl ⟨l, kk, j.toNat, rfl, by rw [Int.toNat_of_nonneg h0]; exact hj, by omega, Nat.eq_of_beq_eq_true hb.1.1.2, by rw [Int.toNat_of_nonneg h0]; exact h2⟩
    · exact .inr h
  · exact .inr h
theorem idxV_ok (hS : StatOK P S) (hg : S.glb = glb) (m : Mt P glb Bk X0 w0 st ρ a W) {ix : Operand} {n : Nat} {kd : Kd} {cs : List SC} {k : SC → Prop} {p : Prop} (h : idxV S st ix n kd cs k p) : (∃ kk i c, a.eval ix = .int kk ((i : Nat) : Int) ∧ i < n ∧ kd.isAgg = false ∧ kd.n = 1 ∧ n ≤ cs.length ∧ pickD (i : Nat) (cs.take n) = some c ∧ k c) ∨ p := by
  unfold idxV at h
  cases hb : isTmp ix && !kd.isAgg && Nat.beq kd.n 1 && Nat.ble n cs.length && (pickD 0 (cs.take n)).isSome with
  | false => rw [hb] at h; exact .inr h
  | true =>
    rw [hb] at h
    simp only [Bool.and_eq_true, Bool.not_eq_true'] at hb
    obtain ⟨kk, j, ⟨h0, h1, h2⟩, hj⟩ := oneI_ok (show oneI _ _ from h) (ev_ok hS hg m _ ix)
    obtain ⟨c, hc, h2⟩ := optK_ok h2
    refine .inl ⟨kk, j.toNat, c, by rw [Int.toNat_of_nonneg h0]; exact hj, by omega, hb.1.1.1.2, Nat.eq_of_beq_eq_true hb.1.1.2, Nat.le_of_ble_eq_true hb.1.2, by rw [Int.toNat_of_nonneg h0]; exact hc, h2⟩
theorem run_indexAt_arr (t e : TypeId) (ad : Addr) (len : Nat) (k : IntKind) (i : Nat) (n : Nat) (ht : P.underlying t = some (.array len e)) (hs : (sizeOf e).run P W = .ok n W) (h1 : i < len) :
    (Instr.indexAt t (.pointer (some ad)) (.int k (i : Int))).run P W = .ok (.pointer (some (ad.add (i * n)))) W := by
  simp [Instr.indexAt, asIntOf, run_underlying ht, hs, Instr.sureAddr]
  intro h2; omega
theorem sem_indexAddr (hS : StatOK P S) (hg : S.glb = glb) (m : Mt P glb Bk X0 w0 st ρ a W) {t : TypeId} {x ix : Operand} (hop : o.op = .indexAddr t x ix)
    (h : mkOr (S.arr t) (fun p => optK (S.ty p.2) fun i => chk (Nat.ble 1 i.kd.n) (oneC (ev S st t x) fun c => idxPt S st ix p.1 i.kd.n c (fun c' => Q (.mk false [c']) []) <| idxArr S st ix p.1 fun k => optK (moveP (k * i.kd.n) c) fun c' => Q (.mk false [c']) [])) <|
      optK (S.sl t) fun e => optK (S.ty e) fun i => oneC (ev S st t x) fun c => oneI (ev S st 0 ix) fun j => idxS st.look i.kd.n c j Q) : OpOut P o a W (Fits P glb Bk X0 w0 st ρ a W Q) := by
  rcases mkOr_ok' h with ⟨p, hp, h⟩ | h
  · obtain ⟨i, hi, h⟩ := optK_ok h
    obtain ⟨_, h⟩ := chk_iff.1 h
    obtain ⟨c, h, hc⟩ := oneC_ok h (ev_ok hS hg m _ x)
    have hu := hS.arr t p hp
    rcases idxPt_ok hS hg m h with ⟨l, kk, k, rfl, hk, hlt, hsz, h⟩ | h
    · obtain ⟨b, hρ, he⟩ := hc
      refine .plain m (exec_v (s := Instr.indexAt t (a.eval x) (a.eval ix)) (v := .pointer (some ⟨b, k, none⟩)) (by unfold execOp; rw [hop]) ?_) h ⟨_, rfl, ⟨b, hρ, by rw [Int.toNat_natCast]⟩, by omega, by omega⟩
      rw [he, hk]
      have := run_indexAt_arr t p.2 ⟨b, 0, none⟩ p.1 kk k _ hu (run_sizeOf hS hi W) hlt
      rw [hsz, Nat.mul_one] at this
      rw [this]
      unfold Addr.add
      split
      · rename_i h0; rw [h0]
      · simp
    obtain ⟨kk, k, hk, hlt, h⟩ := idxArr_ok hS hg m h
    obtain ⟨c', hm, h⟩ := optK_ok h
    obtain ⟨ad, he, hr⟩ := hc.ptr_of_cells m hm
    refine .plain m (exec_v (s := Instr.indexAt t (a.eval x) (a.eval ix)) (v := .pointer (some (ad.add (k * i.kd.n)))) (by unfold execOp; rw [hop]) ?_) h ⟨c', rfl, hr⟩
    rw [he, hk]
    exact run_indexAt_arr t p.2 ad p.1 kk k _ hu (run_sizeOf hS hi W) hlt
  · exact sem_indexAddrS hS hg m hop h
theorem sem_index (hS : StatOK P S) (hg : S.glb = glb) (m : Mt P glb Bk X0 w0 st ρ a W) {t : TypeId} {x ix : Operand} (hop : o.op = .index t x ix)
    (h : optK (S.arr t) fun p => optK (S.ty p.2) fun i => (match ev S st t x with
      | .mk true cs => idxV S st ix p.1 i.kd cs (fun c => Q (.mk false [c]) []) <| idxArr S st ix p.1 fun k => chk (Nat.ble (k * i.kd.n + i.kd.n) cs.length) (Q (.mk i.kd.isAgg ((cs.drop (k * i.kd.n)).take i.kd.n)) [])
      | _ => False)) : OpOut P o a W (Fits P glb Bk X0 w0 st ρ a W Q) := by
  obtain ⟨p, hp, h⟩ := optK_ok h
  obtain ⟨i, hi, h⟩ := optK_ok h
  have hev := ev_ok hS hg m t x
  have hu := hS.arr t p hp
  split at h
  · rename_i cs hcs
    rw [hcs] at hev
    obtain ⟨us, he, hr⟩ := hev
    rcases idxV_ok hS hg m h with ⟨kk, k, c, hk, hlt, hagg, hsz, hle, hpk, h⟩ | h
    · have hagg' := (hS.ty _ i hi).2.2 W
      rw [hagg] at hagg'
      have hszr := run_sizeOf hS hi W
      rw [hsz] at hszr
      obtain ⟨w, hw, hrc⟩ := pickD_ok hpk (hr.take p.1) (by omega) (by rw [List.length_take]; omega)
      rw [Int.toNat_natCast, List.getElem?_take, if_pos hlt] at hw
      have hlt' : (k : Int) < (p.1 : Int) := by omega
      refine .plain m (exec_v (s := Instr.index t (a.eval x) (a.eval ix)) (v := w) (by unfold execOp; rw [hop]) ?_) h ⟨_, rfl, hrc⟩
      simp [Instr.index, asIntOf, hk, run_underlying hu, he, part, hagg', hszr, hw]
      intro h2; omega
    obtain ⟨kk, k, hk, hlt, h⟩ := idxArr_ok hS hg m h
    obtain ⟨hn, h⟩ := chk_iff.1 h
    have hn := Nat.le_of_ble_eq_true hn
    have hlen := hr.length
    have hsz := run_sizeOf hS hi W
    obtain ⟨harg, _, hagg⟩ := hS.ty _ i hi
    have hagg := hagg W
    have hr' := (hr.drop (k * i.kd.n)).take i.kd.n
    have hlt' : (k : Int) < (p.1 : Int) := by omega
    cases hb : i.kd.isAgg with
    | true =>
      rw [hb] at h hagg
      have hex : us.toArray.extract (k * i.kd.n) (k * i.kd.n + i.kd.n) = ((us.drop (k * i.kd.n)).take i.kd.n).toArray := by
        apply Array.ext'
        simp
      refine .plain m (exec_v (s := Instr.index t (a.eval x) (a.eval ix)) (v := .agg ((us.drop (k * i.kd.n)).take i.kd.n).toArray) (by unfold execOp; rw [hop]) ?_) h ⟨_, rfl, hr'⟩
      simp [Instr.index, asIntOf, hk, run_underlying hu, he, part, hagg, hsz, hex]
      intro h2; omega
    | false =>
      rw [hb] at h hagg
      have h1 := kd_n_one harg hb
      rw [h1] at h hn hr' hsz
      have hlt2 : k * 1 < us.length := by omega
      have hus : us[k * 1]? = some us[k * 1] := List.getElem?_eq_getElem hlt2
      have hdt : (us.drop (k * 1)).take 1 = [us[k * 1]] := by
        rw [List.drop_eq_getElem_cons hlt2]; rfl
      have hlt3 : k * 1 < cs.length := by omega
      have hdc : (cs.drop (k * 1)).take 1 = [cs[k * 1]] := by
        rw [List.drop_eq_getElem_cons hlt3]; rfl
      rw [hdt, hdc] at hr'
      rw [hdc] at h
      obtain ⟨v0, vs0, hv0, hrc, _⟩ := hr'
      cases hv0
      refine .plain m (exec_v (s := Instr.index t (a.eval x) (a.eval ix)) (v := us[k * 1]) (by unfold execOp; rw [hop]) ?_) h ⟨_, rfl, hrc⟩
      have hus' : us[k]? = some us[k * 1] := by rw [← hus, Nat.mul_one]
      simp [Instr.index, asIntOf, hk, run_underlying hu, he, part, hagg, hsz, hus']
      intro h2; omega
  · exact h.elim
theorem partsA_ok (hS : StatOK P S) (hg : S.glb = glb) (m : Mt P glb Bk X0 w0 st ρ a W) (e : TypeId) (sz n : Nat) : ∀ (parts : List (Nat × Operand)) (k : List (Nat × List SC) → Prop), partsA S st e sz n parts k →
    ∃ ps : List (Nat × List SC), k ps ∧ ps.length = parts.length ∧ ∀ (j : Nat) p q, parts[j]? = some p → ps[j]? = some q →
      some (p.1 * sz, sz) = some (q.1, q.2.length) ∧ q.1 + q.2.length ≤ n ∧ RepCs P ρ (Xs st ρ X0) W q.2 (a.eval p.2).cells.toList
  | [], k, h => ⟨[], h, rfl, fun j p q hp => by simp at hp⟩
  | (i, x) :: r, k, h => by
    simp only [partsA] at h
    obtain ⟨cs, h, hcs⟩ := cellsOf_ok h (ev_ok hS hg m e x)
    obtain ⟨hb, h⟩ := chk_iff.1 h
    simp only [Bool.and_eq_true] at hb
    obtain ⟨ps, hk, hl, hget⟩ := partsA_ok hS hg m e sz n r _ h
    refine ⟨_, hk, by simp [hl], fun j p q hp hq => ?_⟩
    cases j with
    | zero =>
      simp only [List.getElem?_cons_zero, Option.some.injEq] at hp hq
      subst hp; subst hq
      exact ⟨by rw [Nat.eq_of_beq_eq_true hb.1], Nat.le_of_ble_eq_true hb.2, hcs⟩
    | succ j => exact hget j p q (by simpa using hp) (by simpa using hq)
theorem sem_build (hS : StatOK P S) (hg : S.glb = glb) (m : Mt P glb Bk X0 w0 st ρ a W) {t : TypeId} {parts : Array (Nat × Operand)} (hop : o.op = .build t parts)
    (h : optK (S.ty t) fun i => mkOr (S.arr t) (fun p => optK (S.ty p.2) fun q => partsA S st p.2 q.kd.n i.kd.n parts.toList fun ps => chk i.kd.isAgg (Q (.mk true (fldCells ps i.kd.zc)) [])) <| partsS S st t i.kd.n parts.toList fun ps => chk (i.kd.isAgg && (S.fld t 0).isSome) (Q (.mk true (fldCells ps i.kd.zc)) [])) : OpOut P o a W (Fits P glb Bk X0 w0 st ρ a W Q) := by
  obtain ⟨i, hi, h⟩ := optK_ok h
  rcases mkOr_ok' h with ⟨p, hp, h⟩ | h
  · obtain ⟨q, hq, h⟩ := optK_ok h
    obtain ⟨ps, h, hl, hget⟩ := partsA_ok hS hg m p.2 _ _ _ _ h
    obtain ⟨hb, h⟩ := chk_iff.1 h
    have hu := hS.arr t p hp
    obtain ⟨harg, ⟨inf, z, g1, g2, _, g4, g5⟩, hagg⟩ := hS.ty t i hi
    obtain ⟨_, ⟨inf2, z2, k1, k2, _⟩, _⟩ := hS.ty p.2 q hq
    have hzs : z.cells.size = i.kd.n := by rw [← Array.length_toList, g5, zv_length]
    obtain ⟨out, ho, hr⟩ := fill_ok (P := P) (ρ := ρ) (W := W) (X := Xs st ρ X0) (fun i => some (i * q.kd.n, q.kd.n)) i.kd.n (parts.map fun (i, x) => (i, a.eval x)).toList ps i.kd.zc z.cells (by simp [hl]) (fun j p' q' hp' hq' => by
      simp only [Array.toList_map, List.getElem?_map, Option.map_eq_some_iff] at hp'
      obtain ⟨p0, hp0, rfl⟩ := hp'
      exact hget j p0 q' hp0 hq') hzs (by rw [g5]; exact zc_ok i.kd)
    have hbuilt : P.built t (parts.map fun (i, x) => (i, a.eval x)).toList = some out := by
      unfold Program.built
      rw [g1, hu]
      simp only [g4, k1, k2]
      simpa using ho
    exact .plain m (exec_v (s := Instr.build t (parts.map fun (i, x) => (i, a.eval x))) (v := .agg out) (by unfold execOp; rw [hop]) (run_build W t _ out hbuilt)) h ⟨out.toList, rfl, hr⟩
  · exact sem_buildS hS hg m hop (by rw [hi]; exact h)
end
end Go.GX
