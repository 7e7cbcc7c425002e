/- Part 4 of the texts behind the proof: Gx16, Gx17, Gx18, Gx19, Gx20, Gx20r, Gx20l. -/
import Derived.Test.YtmdonphignifoaaGreatG03
import Derived.OrdersIn
set_option linter.unusedSimpArgs false
set_option linter.unusedVariables false
set_option linter.unusedSectionVars false
set_option linter.unusedVariables false
namespace Go.GX
variable [Inhabited BaseD]
open Go.RowKit Go.Shelf Go.Proofs

def Cap.uses (p : Nat → Prop) : Cap → Prop
  | .l m => p m
  | .d _ _ _ => True
def SC.uses (p : Nat → Prop) : SC → Prop
  | .own l => p l
  | .ptr l _ => p l
  | .ep l _ _ _ => p l
  | .inn l vl _ => p l ∧ p vl
  | .iep l vl _ _ _ _ => p l ∧ p vl
  | .clo _ caps => ∀ c, c ∈ caps → c.uses p
  | .sub l _ _ _ => p l
  | .pt l _ _ _ => p l
  | .bsl l _ _ _ => p l
  | _ => True
def SV.uses (p : Nat → Prop) : SV → Prop
  | .any => True
  | .mk _ cs => ∀ c, c ∈ cs → c.uses p
  | .tup l => ∀ q, q ∈ l → ∀ c, c ∈ q.2 → c.uses p
def HE.uses (p : Nat → Prop) : HE → Prop
  | .box _ _ cs => ∀ c, c ∈ cs → c.uses p
  | .mat _ _ _ _ _ _ _ vl => p vl
  | _ => True

section
variable {P : Program} {glb : Nat → Option GV} {Bk X0 X : Nat → Prop} {w0 : World} {st st0 : St} {ρ ρ' : Lab} {a : Act} {W W' : World} {S : Stat} {p : Nat → Prop}

theorem RepCap.uses (hp : ∀ l v, ρ l = some v → p l) : ∀ {c v}, RepCap P ρ X W c v → c.uses p
  | .l m, v, ⟨h, _⟩ => hp _ _ h
  | .d _ _ _, _, _ => trivial
theorem RepCaps.uses (hp : ∀ l v, ρ l = some v → p l) : ∀ {cs vs}, RepCaps P ρ X W cs vs → ∀ c, c ∈ cs → c.uses p
  | [], _, _, c, hc => by simp at hc
  | d :: r, _, ⟨v, vs', h, h1, h2⟩, c, hc => by
    rcases List.mem_cons.1 hc with rfl | hc
    · exact h1.uses hp
    · exact RepCaps.uses hp h2 c hc
theorem RepC.uses (hp : ∀ l v, ρ l = some v → p l) : ∀ {c v}, RepC P ρ X W c v → c.uses p
  | .v u, _, h => trivial
  | .d K x, _, h => trivial
  | .fr t K xs, _, _ => trivial
  | .nl _ _, _, h => trivial
  | .own l, _, ⟨h, h1⟩ => hp _ _ h
  | .ptr l off, _, ⟨b, h, h1⟩ => hp _ _ h
  | .pt l off n j, _, ⟨⟨b, h, h1⟩, h2⟩ => hp _ _ h
  | .bsl l lo hi n, _, ⟨⟨b, ad, h, h1⟩, h2⟩ => hp _ _ h
  | .ep l j sz off, _, ⟨b, n, c, h, h1⟩ => hp _ _ h
  | .dp K x off, _, _ => trivial
  | .clo f caps, _, ⟨vs, h, h1⟩ => h1.uses hp
  | .sub l lo hi sz, _, ⟨A0, n, c, h, _⟩ => hp _ _ h
  | .inn l vl j, _, ⟨us, h, _, _, h3⟩ => ⟨(let ⟨v, hv⟩ := Option.isSome_iff_exists.1 h3; hp _ _ hv), hp _ _ h⟩
  | .iep l vl j i sz off, _, ⟨us, ad, n, c, h, _, _, _, h3⟩ => ⟨(let ⟨v, hv⟩ := Option.isSome_iff_exists.1 h3; hp _ _ hv), hp _ _ h⟩
theorem RepCs.uses (hp : ∀ l v, ρ l = some v → p l) : ∀ {cs vs}, RepCs P ρ X W cs vs → ∀ c, c ∈ cs → c.uses p
  | [], _, _, c, hc => by simp at hc
  | d :: r, _, ⟨v, vs', h, h1, h2⟩, c, hc => by
    rcases List.mem_cons.1 hc with rfl | hc
    · exact h1.uses hp
    · exact RepCs.uses hp h2 c hc
theorem RepV1.uses (hp : ∀ l v, ρ l = some v → p l) : ∀ {a cs v}, RepV1 P ρ X W a cs v → ∀ c, c ∈ cs → c.uses p
  | false, _, _, ⟨c, h, h1⟩ => by
    subst h
    intro c' hc'
    rcases List.mem_singleton.1 hc' with rfl
    exact h1.uses hp
  | true, _, _, ⟨vs, h, h1⟩ => h1.uses hp
theorem RepT.uses (hp : ∀ l v, ρ l = some v → p l) : ∀ {l vs}, RepT P ρ X W l vs → ∀ q, q ∈ l → ∀ c, c ∈ q.2 → c.uses p
  | [], _, _, q, hq => by simp at hq
  | d :: r, _, ⟨v, vs', h, h1, h2⟩, q, hq => by
    rcases List.mem_cons.1 hq with rfl | hq
    · exact h1.uses hp
    · exact RepT.uses hp h2 q hq
theorem RepV.uses (hp : ∀ l v, ρ l = some v → p l) : ∀ {s v}, RepV P ρ X W s v → s.uses p
  | .any, _, _ => trivial
  | .mk _ _, _, h => RepV1.uses hp h
  | .tup _, _, ⟨vs, h, h1⟩ => h1.uses hp

theorem RepCap.re (hp : ∀ l, p l → ρ' l = ρ l) : ∀ {c v}, RepCap P ρ X W c v → c.uses p → RepCap P ρ' X W c v
  | .l m, v, ⟨h, hb⟩, hu => ⟨by rw [hp _ hu]; exact h, hb⟩
  | .d _ _ _, _, h, _ => h
theorem RepCaps.re (hp : ∀ l, p l → ρ' l = ρ l) : ∀ {cs vs}, RepCaps P ρ X W cs vs → (∀ c, c ∈ cs → c.uses p) → RepCaps P ρ' X W cs vs
  | [], _, h, _ => h
  | d :: r, _, ⟨v, vs', h, h1, h2⟩, hu => ⟨v, vs', h, h1.re hp (hu d (List.mem_cons_self)), RepCaps.re hp h2 (fun c hc => hu c (List.mem_cons_of_mem _ hc))⟩
theorem RepC.re (hp : ∀ l, p l → ρ' l = ρ l) : ∀ {c v}, RepC P ρ X W c v → c.uses p → RepC P ρ' X W c v
  | .v u, _, h, _ => h
  | .d K x, _, h, _ => h
  | .fr t K xs, _, h, _ => h
  | .nl _ _, _, h, _ => h
  | .own l, _, ⟨h, h1⟩, hu => ⟨by rw [hp _ hu]; exact h, h1⟩
  | .ptr l off, _, ⟨b, h, h1⟩, hu => ⟨b, by rw [hp _ hu]; exact h, h1⟩
  | .pt l off n j, _, ⟨⟨b, h, h1⟩, h2⟩, hu => ⟨⟨b, by rw [hp _ hu]; exact h, h1⟩, h2⟩
  | .bsl l lo hi n, _, ⟨⟨b, ad, h, h1⟩, h2⟩, hu => ⟨⟨b, ad, by rw [hp _ hu]; exact h, h1⟩, h2⟩
  | .ep l j sz off, _, ⟨b, n, c, h, h1⟩, hu => ⟨b, n, c, by rw [hp _ hu]; exact h, h1⟩
  | .dp K x off, _, h, _ => h
  | .clo f caps, _, ⟨vs, h, h1⟩, hu => ⟨vs, h, h1.re hp hu⟩
  | .sub l lo hi sz, _, ⟨A0, n, c, h, h1⟩, hu => ⟨A0, n, c, by rw [hp _ hu]; exact h, h1⟩
  | .inn l vl j, _, ⟨us, h, h1, h2, h3⟩, hu => ⟨us, by rw [hp _ hu.2]; exact h, h1, h2, by rw [hp _ hu.1]; exact h3⟩
  | .iep l vl j i sz off, _, ⟨us, ad, n, c, h, h1, h2, h3, h4⟩, hu => ⟨us, ad, n, c, by rw [hp _ hu.2]; exact h, h1, h2, h3, by rw [hp _ hu.1]; exact h4⟩
theorem RepCs.re (hp : ∀ l, p l → ρ' l = ρ l) : ∀ {cs vs}, RepCs P ρ X W cs vs → (∀ c, c ∈ cs → c.uses p) → RepCs P ρ' X W cs vs
  | [], _, h, _ => h
  | d :: r, _, ⟨v, vs', h, h1, h2⟩, hu => ⟨v, vs', h, h1.re hp (hu d (List.mem_cons_self)), RepCs.re hp h2 (fun c hc => hu c (List.mem_cons_of_mem _ hc))⟩
theorem RepV1.re (hp : ∀ l, p l → ρ' l = ρ l) : ∀ {a cs v}, RepV1 P ρ X W a cs v → (∀ c, c ∈ cs → c.uses p) → RepV1 P ρ' X W a cs v
  | false, _, _, ⟨c, h, h1⟩, hu => ⟨c, h, h1.re hp (hu c (by rw [h]; simp))⟩
  | true, _, _, ⟨vs, h, h1⟩, hu => ⟨vs, h, h1.re hp hu⟩
theorem RepT.re (hp : ∀ l, p l → ρ' l = ρ l) : ∀ {l vs}, RepT P ρ X W l vs → (∀ q, q ∈ l → ∀ c, c ∈ q.2 → c.uses p) → RepT P ρ' X W l vs
  | [], _, h, _ => h
  | d :: r, _, ⟨v, vs', h, h1, h2⟩, hu => ⟨v, vs', h, h1.re hp (hu d (List.mem_cons_self)), RepT.re hp h2 (fun c hc => hu c (List.mem_cons_of_mem _ hc))⟩
theorem RepV.re (hp : ∀ l, p l → ρ' l = ρ l) : ∀ {s v}, RepV P ρ X W s v → s.uses p → RepV P ρ' X W s v
  | .any, _, _, _ => trivial
  | .mk _ _, _, h, hu => RepV1.re hp h hu
  | .tup _, _, ⟨vs, h, h1⟩, hu => ⟨vs, h, h1.re hp hu⟩

abbrev RowE := Nat × Value × Option Nat

def SrcIs (st : St) (ρ : Lab) (kept : Nat → Bool) (v : Value) : Option Nat → Prop
  | some m => ∃ nn e K xs s, st.hp m = some (.row nn e K xs, s) ∧ ρ m = some v ∧ kept m = false
  | none => v.ownBlock = none

def RowIs (P : Program) (base : Nat) (st : St) (ρ : Lab) (X : Nat → Prop) (W : World) (kept : Nat → Bool) (nn : Bool) (e : TypeId) (K : Kd) (xs : List K.T) (v : Value) (src : Option Nat) : Prop :=
  HEok P base ρ X W (.row nn e K xs) v ∧ (∃ A n c, v = .slice A n c) ∧ SrcIs st ρ kept v src

def SrcM (st : St) (ρ : Lab) (kept : Nat → Bool) (v : Value) (us : List Value) : Option Nat → Prop
  | some m => ∃ nn e ag e1 K1 xs vl s, st.hp m = some (.mat nn e ag e1 K1 xs none vl, s) ∧ ρ m = some v ∧ ρ vl = some (.tuple us.toArray) ∧ kept m = false
  | none => v.ownBlock = none ∧ us = []

def MatIs (P : Program) (st : St) (ρ : Lab) (W : World) (kept : Nat → Bool) (nn : Bool) (e e1 : TypeId) (K1 : Kd) (xs : List (List K1.T)) (us : List Value) (v : Value) (src : Option Nat) : Prop :=
  MatOK P W e e1 K1 xs none us v ∧ (nn = true → ∃ a n c, v = .slice (some a) n c) ∧ (∃ A n c, v = .slice A n c) ∧ SrcM st ρ kept v us src

def Items.Rep (P : Program) (base : Nat) (st : St) (ρ : Lab) (X : Nat → Prop) (W : World) (a : Act) (kept : Nat → Bool) : (its : Items) → its.G → List RowE → Prop
  | [], _, L => L = []
  | .t t K :: r, g, L => (∀ ρ2, RepV P ρ2 X W (mkv K g.1) (a.tmps.getD t undef)) ∧ Items.Rep P base st ρ X W a kept r g.2 L
  | .row t l nn e K :: r, g, L => ∃ v src L', L = (l, v, src) :: L' ∧ a.tmps.getD t undef = v ∧ RowIs P base st ρ X W kept nn e K g.1 v src ∧ Items.Rep P base st ρ X W a kept r g.2 L'
  | .cell l ty K :: r, g, L => (∃ b arr cs s, ρ l = some (.pointer (some ⟨b, 0, none⟩)) ∧ st.hp l = some (.box true ty cs, s) ∧ W.heap[b]? = some (.cells arr ty (0, 0)) ∧ (K.sem P).cells X W g.1 arr.toList) ∧ Items.Rep P base st ρ X W a kept r g.2 L
  | .crow l ty m nn e K K2 :: r, g, L => ∃ v src L', L = (m, v, src) :: L' ∧ (∃ b arr cs s, ρ l = some (.pointer (some ⟨b, 0, none⟩)) ∧ st.hp l = some (.box true ty cs, s) ∧ W.heap[b]? = some (.cells arr ty (0, 0)) ∧ ∃ us, arr.toList = v :: us ∧ (K2.sem P).cells X W g.1.2 us) ∧ RowIs P base st ρ X W kept nn e K g.1.1 v src ∧ Items.Rep P base st ρ X W a kept r g.2 L'
  | .crow2 l ty m nn e K K2 m' nn' e' K' :: r, g, L => ∃ v src v' src' L', L = (m, v, src) :: (m', v', src') :: L' ∧ (∃ b arr cs s, ρ l = some (.pointer (some ⟨b, 0, none⟩)) ∧ st.hp l = some (.box true ty cs, s) ∧ W.heap[b]? = some (.cells arr ty (0, 0)) ∧ ∃ us, arr.toList = v :: (us ++ [v']) ∧ (K2.sem P).cells X W g.1.2.1 us) ∧ RowIs P base st ρ X W kept nn e K g.1.1 v src ∧ RowIs P base st ρ X W kept nn' e' K' g.1.2.2 v' src' ∧ Items.Rep P base st ρ X W a kept r g.2 L'
  | .drow l ty K2 m nn e K :: r, g, L => ∃ v src L', L = (m, v, src) :: L' ∧ (∃ b arr cs s, ρ l = some (.pointer (some ⟨b, 0, none⟩)) ∧ st.hp l = some (.box true ty cs, s) ∧ W.heap[b]? = some (.cells arr ty (0, 0)) ∧ ∃ us, arr.toList = us ++ [v] ∧ (K2.sem P).cells X W g.1.1 us) ∧ RowIs P base st ρ X W kept nn e K g.1.2 v src ∧ Items.Rep P base st ρ X W a kept r g.2 L'
  | .lrow l nn e K :: r, g, L => ∃ v src L', L = (l, v, src) :: L' ∧ src = some l ∧ RowIs P base st ρ X W kept nn e K g.1 v src ∧ Items.Rep P base st ρ X W a kept r g.2 L'
  | .mat t l vl nn e ag e1 K1 :: r, g, L => ∃ v src us L', L = (l, v, src) :: (vl, .tuple us.toArray, none) :: L' ∧ a.tmps.getD t undef = v ∧ MatIs P st ρ W kept nn e e1 K1 g.1 us v src ∧ Items.Rep P base st ρ X W a kept r g.2 L'
  | .lmat l vl nn e ag e1 K1 :: r, g, L => ∃ v src us L', L = (l, v, src) :: (vl, .tuple us.toArray, none) :: L' ∧ src = some l ∧ MatIs P st ρ W kept nn e e1 K1 g.1 us v src ∧ Items.Rep P base st ρ X W a kept r g.2 L'

def SrcOK : List Nat → List RowE → Prop
  | _, [] => True
  | seen, (_, _, some m) :: r => memL m seen = false ∧ SrcOK (m :: seen) r
  | seen, (_, _, none) :: r => SrcOK seen r

theorem rowK_ok (m : Mt P glb Bk X0 w0 st ρ a W) {kept : Nat → Bool} {seen : List Nat} {sv : SV} {v : Value} {nn : Bool} {e : TypeId} {K : Kd} {k : List K.T → List Nat → Prop} (hv : RepV P ρ (Xs st ρ X0) W sv v) (h : rowK kept st.look seen sv nn e K k) :
    ∃ xs src, RowIs P 0 st ρ (Xs st ρ X0) W kept nn e K xs v src ∧ ((src = none ∧ k xs seen ∧ ∃ e0 K0, sv = .mk false [.nl e0 K0]) ∨ ∃ l, src = some l ∧ memL l seen = false ∧ k xs (l :: seen) ∧ sv = .mk false [.own l]) := by
  unfold rowK at h
  split at h
  · rename_i l
    split at h
    · rename_i nn' e' K' xs hl
      obtain ⟨hc, h2⟩ := chk_iff.1 h
      simp only [Bool.and_eq_true, Bool.not_eq_true'] at hc
      obtain ⟨⟨⟨h3, h4⟩, h5⟩, h6⟩ := hc
      have h3 := Nat.eq_of_beq_eq_true h3
      subst h3
      split at h2
      · rename_i hK
        subst hK
        obtain ⟨c, hcc, hv1⟩ := hv
        cases hcc
        obtain ⟨hρ, hsl⟩ := hv1
        obtain ⟨s, hs⟩ := look_some hl
        obtain ⟨v', hv', hok⟩ := m.hps l _ s hs
        rw [hρ] at hv'; injection hv' with hv'; subst hv'
        refine ⟨xs, some l, ⟨⟨hok.1, hok.2.1, fun hn => hok.2.2 ?_⟩, hsl, _, _, _, _, s, hs, hρ, h6⟩, .inr ⟨l, rfl, h5, h2, rfl⟩⟩
        subst hn
        simpa using h4
      · exact h2.elim
    · exact h.elim
  · rename_i e0 K0
    obtain ⟨hc, h2⟩ := chk_iff.1 h
    simp only [Bool.and_eq_true, Bool.not_eq_true'] at hc
    obtain ⟨c, hcc, hnl⟩ := hv
    cases hcc
    have hnl : v = .slice none 0 0 := hnl
    subst hnl
    refine ⟨[], none, ⟨⟨Nat.le_of_ble_eq_true hc.2, ⟨[], World.ownsRow_nil W _ e K.n, fun j x hx => by simp at hx⟩, fun hn => ?_⟩, ⟨_, _, _, rfl⟩, rfl⟩, .inl ⟨rfl, h2, _, _, rfl⟩⟩
    rw [hn] at hc; cases hc.1
  · exact h.elim

theorem matK_ok (m : Mt P glb Bk X0 w0 st ρ a W) {kept : Nat → Bool} {seen : List Nat} {sv : SV} {v : Value} {nn : Bool} {e : TypeId} {ag : Bool} {e1 : TypeId} {K1 : Kd} {k : List (List K1.T) → List Nat → Prop} (hv : RepV P ρ (Xs st ρ X0) W sv v) (h : matK kept st.look seen sv nn e ag e1 K1 k) :
    ∃ xs us src, MatIs P st ρ W kept nn e e1 K1 xs us v src ∧ ((src = none ∧ k xs seen ∧ ∃ e0 K0, sv = .mk false [.nl e0 K0]) ∨ ∃ l, src = some l ∧ memL l seen = false ∧ k xs (l :: seen) ∧ sv = .mk false [.own l]) := by
  unfold matK at h
  split at h
  · rename_i l
    split at h
    · rename_i nn' e' ag' e1' K' xs vl hl
      obtain ⟨hc, h2⟩ := chk_iff.1 h
      simp only [Bool.and_eq_true, Bool.not_eq_true', beq_iff_eq] at hc
      obtain ⟨⟨⟨⟨⟨h3, h4⟩, h5⟩, h6⟩, h7⟩, h8⟩ := hc
      have h3 := Nat.eq_of_beq_eq_true h3
      have h5 := Nat.eq_of_beq_eq_true h5
      subst h3; subst h5
      split at h2
      · rename_i hK
        subst hK
        rw [map_castL] at h2
        obtain ⟨c, hcc, hv1⟩ := hv
        cases hcc
        obtain ⟨hρ, hsl⟩ := hv1
        obtain ⟨s, hs⟩ := look_some hl
        obtain ⟨v', hv', ⟨us, hu, mo⟩, hnn⟩ := m.hps l _ s hs
        rw [hρ] at hv'; injection hv' with hv'; subst hv'
        refine ⟨xs, us, some l, ⟨mo, fun hn => hnn ?_, hsl, _, _, _, _, _, _, _, s, hs, hρ, hu, h8⟩, .inr ⟨l, rfl, h7, h2, rfl⟩⟩
        subst hn
        simpa using h6
      · exact h2.elim
    · exact h.elim
  · rename_i e0 K0
    obtain ⟨hc, h2⟩ := chk_iff.1 h
    simp only [Bool.and_eq_true, Bool.not_eq_true'] at hc
    obtain ⟨c, hcc, hnl⟩ := hv
    cases hcc
    have hnl : v = .slice none 0 0 := hnl
    subst hnl
    refine ⟨[], [], none, ⟨⟨hc.1.2, Nat.le_of_ble_eq_true hc.2, rfl, ⟨[], World.ownsRow_nil W _ e 1, fun j u hj => by simp at hj⟩, fun j u xr hj => by simp at hj, fun j j' u u' k _ hj => by simp at hj, fun j u k hj => by simp at hj⟩, fun hn => ?_, ⟨_, _, _, rfl⟩, rfl, rfl⟩, .inl ⟨rfl, h2, _, _, rfl⟩⟩
    rw [hn] at hc; cases hc.1.1
  · exact h.elim

theorem get_ok (hct : CtOK P glb S) (m : Mt P glb Bk X0 w0 st ρ a W) (kept : Nat → Bool) : ∀ (its : Items) (seen : List Nat) (k : its.G → Prop), its.get S kept st seen k →
    ∃ g L, k g ∧ its.Rep P 0 st ρ (Xs st ρ X0) W a kept g L ∧ SrcOK seen L
  | [], seen, k, h => ⟨(), [], h, rfl, trivial⟩
  | .t t K :: r, seen, k, h => by
    simp only [Items.get] at h
    have hv := m.tms t
    split at h
    · rename_i ag cs htm
      rw [htm] at hv
      obtain ⟨hk, h⟩ := chk_iff.1 h
      obtain ⟨⟨x, rest, ls⟩, hd, h⟩ := optK_ok h
      obtain ⟨hc, h⟩ := chk_iff.1 h
      simp only [Bool.and_eq_true, List.isEmpty_iff] at hc
      obtain ⟨hc1, hc2⟩ := hc
      subst hc1; subst hc2
      obtain ⟨g, L, hkg, hrep, hsrc⟩ := get_ok hct m kept r seen _ h
      refine ⟨(x, g), L, hkg, ⟨fun ρ2 => ?_, hrep⟩, hsrc⟩
      have := argVal (Z := fun _ => false) (dec1_ok m hct fuel) hk hd hv (by simp)
      exact (RepV.of_val K ((Kd.stands P K).val (Evo.unfalse m) this)).1
    · exact h.elim
  | .row t l nn e K :: r, seen, k, h => by
    simp only [Items.get] at h
    obtain ⟨xs, src, hrow, hcase⟩ := rowK_ok m (m.tms t) h
    rcases hcase with ⟨rfl, h, _⟩ | ⟨l', rfl, hseen, h, _⟩
    · obtain ⟨g, L, hkg, hrep, hsrc⟩ := get_ok hct m kept r seen _ h
      exact ⟨(xs, g), (l, _, none) :: L, hkg, ⟨_, _, _, rfl, rfl, hrow, hrep⟩, hsrc⟩
    · obtain ⟨g, L, hkg, hrep, hsrc⟩ := get_ok hct m kept r _ _ h
      exact ⟨(xs, g), (l, _, some l') :: L, hkg, ⟨_, _, _, rfl, rfl, hrow, hrep⟩, hseen, hsrc⟩
  | .cell l ty K :: r, seen, k, h => by
    simp only [Items.get] at h
    split at h
    · rename_i ty' cs hl
      obtain ⟨hty, h⟩ := chk_iff.1 h
      have hty := Nat.eq_of_beq_eq_true hty
      subst hty
      obtain ⟨⟨x, rest, ls⟩, hd, h⟩ := optK_ok h
      obtain ⟨hc, h⟩ := chk_iff.1 h
      simp only [Bool.and_eq_true, List.isEmpty_iff] at hc
      obtain ⟨hc1, hc2⟩ := hc
      subst hc1; subst hc2
      obtain ⟨g, L, hkg, hrep, hsrc⟩ := get_ok hct m kept r seen _ h
      obtain ⟨s, hs⟩ := look_some hl
      obtain ⟨v, hv, b, arr, rfl, hb, hcs, _⟩ := m.hps l _ s hs
      obtain ⟨v1, v2, hvs, hc1, hc2⟩ := decs_ok (Z := fun _ => false) (dec1_ok m hct fuel) K cs x [] [] arr.toList hd hcs (by simp)
      have : v2 = [] := hc2
      subst this
      rw [List.append_nil] at hvs
      subst hvs
      exact ⟨(x, g), L, hkg, ⟨⟨b, arr, cs, s, hv, hs, hb, (Kd.stands P K).cells (Evo.unfalse m) hc1⟩, hrep⟩, hsrc⟩
    · exact h.elim
  | .crow l ty lm nn e K K2 :: r, seen, k, h => by
    simp only [Items.get] at h
    split at h
    · rename_i ty' c ds hl
      obtain ⟨hty, h⟩ := chk_iff.1 h
      have hty := Nat.eq_of_beq_eq_true hty
      subst hty
      obtain ⟨s, hs⟩ := look_some hl
      obtain ⟨v, hv, b, arr, rfl, hb, hcs, _⟩ := m.hps l _ s hs
      obtain ⟨u, us, harr, hcu, hus⟩ := hcs
      obtain ⟨xs, src, hrow, hcase⟩ := rowK_ok m (v := u) (sv := .mk false [c]) ⟨c, rfl, hcu⟩ h
      have two : ∀ {seen2 : List Nat}, (optK (decs (dec1 S st.look fuel) K2 ds) fun p => chk (p.2.1.isEmpty && p.2.2.isEmpty) (Items.get S kept st r seen2 fun g => k ((xs, p.1), g))) → ∃ y, (K2.sem P).cells (Xs st ρ X0) W y us ∧ Items.get S kept st r seen2 fun g => k ((xs, y), g) := by
        intro seen2 h
        obtain ⟨⟨y, rest, ls⟩, hd, h⟩ := optK_ok h
        obtain ⟨hc, h⟩ := chk_iff.1 h
        simp only [Bool.and_eq_true, List.isEmpty_iff] at hc
        obtain ⟨hc1, hc2⟩ := hc
        subst hc1; subst hc2
        obtain ⟨v1, v2, hvs, hc1, hc2⟩ := decs_ok (Z := fun _ => false) (dec1_ok m hct fuel) K2 ds y [] [] us hd hus (by simp)
        have : v2 = [] := hc2
        subst this
        rw [List.append_nil] at hvs
        subst hvs
        exact ⟨y, (Kd.stands P K2).cells (Evo.unfalse m) hc1, h⟩
      rcases hcase with ⟨rfl, h, _⟩ | ⟨l', rfl, hseen, h, _⟩
      · obtain ⟨y, hy, h⟩ := two h
        obtain ⟨g, L, hkg, hrep, hsrc⟩ := get_ok hct m kept r seen _ h
        exact ⟨((xs, y), g), (lm, _, none) :: L, hkg, ⟨_, _, _, rfl, ⟨b, arr, _, s, hv, hs, hb, us, harr, hy⟩, hrow, hrep⟩, hsrc⟩
      · obtain ⟨y, hy, h⟩ := two h
        obtain ⟨g, L, hkg, hrep, hsrc⟩ := get_ok hct m kept r _ _ h
        exact ⟨((xs, y), g), (lm, _, some l') :: L, hkg, ⟨_, _, _, rfl, ⟨b, arr, _, s, hv, hs, hb, us, harr, hy⟩, hrow, hrep⟩, hseen, hsrc⟩
    · exact h.elim
  | .crow2 l ty lm nn e K K2 lm' nn' e' K' :: r, seen, k, h => by
    simp only [Items.get] at h
    split at h
    · rename_i ty' c ds hl
      obtain ⟨hty, h⟩ := chk_iff.1 h
      have hty := Nat.eq_of_beq_eq_true hty
      subst hty
      obtain ⟨s, hs⟩ := look_some hl
      obtain ⟨v, hv, b, arr, rfl, hb, hcs, _⟩ := m.hps l _ s hs
      obtain ⟨u, us, harr, hcu, hus⟩ := hcs
      obtain ⟨xs, src, hrow, hcase⟩ := rowK_ok m (v := u) (sv := .mk false [c]) ⟨c, rfl, hcu⟩ h
      have two : ∀ {seen2 : List Nat}, (optK (decs (dec1 S st.look fuel) K2 ds) fun p => match p.2.1 with
          | [d] => chk p.2.2.isEmpty (rowK kept st.look seen2 (.mk false [d]) nn' e' K' fun zs seen => Items.get S kept st r seen fun g => k ((xs, p.1, zs), g))
          | _ => False) → ∃ y vs d w, (K2.sem P).cells (Xs st ρ X0) W y vs ∧ us = vs ++ [w] ∧ RepV P ρ (Xs st ρ X0) W (.mk false [d]) w ∧ rowK kept st.look seen2 (.mk false [d]) nn' e' K' fun zs seen => Items.get S kept st r seen fun g => k ((xs, y, zs), g) := by
        intro seen2 h
        obtain ⟨⟨y, rest, ls⟩, hd, h⟩ := optK_ok h
        simp only at h
        split at h
        · rename_i d
          obtain ⟨hc, h⟩ := chk_iff.1 h
          simp only [List.isEmpty_iff] at hc
          subst hc
          obtain ⟨v1, v2, hvs, hc1, hc2⟩ := decs_ok (Z := fun _ => false) (dec1_ok m hct fuel) K2 ds y [d] [] us hd hus (by simp)
          obtain ⟨w, v3, e1, hw, e2⟩ := hc2
          have e2 : v3 = [] := e2
          subst e2
          subst e1
          exact ⟨y, v1, d, w, (Kd.stands P K2).cells (Evo.unfalse m) hc1, hvs, ⟨d, rfl, hw⟩, h⟩
        · exact h.elim
      rcases hcase with ⟨rfl, h, _⟩ | ⟨l', rfl, hseen, h, _⟩
      · obtain ⟨y, vs, d, w, hy, rfl, hd, h⟩ := two h
        obtain ⟨zs, src', hrow', hcase'⟩ := rowK_ok m (v := w) hd h
        rcases hcase' with ⟨rfl, h, _⟩ | ⟨l'', rfl, hseen', h, _⟩
        · obtain ⟨g, L, hkg, hrep, hsrc⟩ := get_ok hct m kept r seen _ h
          exact ⟨((xs, y, zs), g), (lm, _, none) :: (lm', _, none) :: L, hkg, ⟨_, _, _, _, _, rfl, ⟨b, arr, _, s, hv, hs, hb, vs, harr, hy⟩, hrow, hrow', hrep⟩, hsrc⟩
        · obtain ⟨g, L, hkg, hrep, hsrc⟩ := get_ok hct m kept r _ _ h
          exact ⟨((xs, y, zs), g), (lm, _, none) :: (lm', _, some l'') :: L, hkg, ⟨_, _, _, _, _, rfl, ⟨b, arr, _, s, hv, hs, hb, vs, harr, hy⟩, hrow, hrow', hrep⟩, hseen', hsrc⟩
      · obtain ⟨y, vs, d, w, hy, rfl, hd, h⟩ := two h
        obtain ⟨zs, src', hrow', hcase'⟩ := rowK_ok m (v := w) hd h
        rcases hcase' with ⟨rfl, h, _⟩ | ⟨l'', rfl, hseen', h, _⟩
        · obtain ⟨g, L, hkg, hrep, hsrc⟩ := get_ok hct m kept r _ _ h
          exact ⟨((xs, y, zs), g), (lm, _, some l') :: (lm', _, none) :: L, hkg, ⟨_, _, _, _, _, rfl, ⟨b, arr, _, s, hv, hs, hb, vs, harr, hy⟩, hrow, hrow', hrep⟩, hseen, hsrc⟩
        · obtain ⟨g, L, hkg, hrep, hsrc⟩ := get_ok hct m kept r _ _ h
          exact ⟨((xs, y, zs), g), (lm, _, some l') :: (lm', _, some l'') :: L, hkg, ⟨_, _, _, _, _, rfl, ⟨b, arr, _, s, hv, hs, hb, vs, harr, hy⟩, hrow, hrow', hrep⟩, hseen, hseen', hsrc⟩
    · exact h.elim
  | .drow l ty K2 lm nn e K :: r, seen, k, h => by
    simp only [Items.get] at h
    split at h
    · rename_i ty' ds hl
      obtain ⟨hty, h⟩ := chk_iff.1 h
      have hty := Nat.eq_of_beq_eq_true hty
      subst hty
      obtain ⟨s, hs⟩ := look_some hl
      obtain ⟨v, hv, b, arr, rfl, hb, hus, _⟩ := m.hps l _ s hs
      obtain ⟨⟨y, rest, ls⟩, hd, h⟩ := optK_ok h
      simp only at h
      split at h
      · rename_i d
        obtain ⟨hc, hgo⟩ := chk_iff.1 h
        clear h
        simp only [List.isEmpty_iff] at hc
        subst hc
        obtain ⟨v1, v2, hvs, hc1, hc2⟩ := decs_ok (Z := fun _ => false) (dec1_ok m hct fuel) K2 ds y [d] [] arr.toList hd hus (by simp)
        obtain ⟨w, v3, e1, hw, e2⟩ := hc2
        have e2 : v3 = [] := e2
        subst e2
        subst e1
        have hy := (Kd.stands P K2).cells (Evo.unfalse m) hc1
        obtain ⟨zs, src', hrow', hcase'⟩ := rowK_ok m (v := w) (sv := .mk false [d]) ⟨d, rfl, hw⟩ hgo
        rcases hcase' with ⟨rfl, h, _⟩ | ⟨l'', rfl, hseen', h, _⟩
        · obtain ⟨g, L, hkg, hrep, hsrc⟩ := get_ok hct m kept r seen _ h
          exact ⟨((y, zs), g), (lm, _, none) :: L, hkg, ⟨_, _, _, rfl, ⟨b, arr, _, s, hv, hs, hb, v1, hvs, hy⟩, hrow', hrep⟩, hsrc⟩
        · obtain ⟨g, L, hkg, hrep, hsrc⟩ := get_ok hct m kept r _ _ h
          exact ⟨((y, zs), g), (lm, _, some l'') :: L, hkg, ⟨_, _, _, rfl, ⟨b, arr, _, s, hv, hs, hb, v1, hvs, hy⟩, hrow', hrep⟩, hseen', hsrc⟩
      · exact h.elim
    · exact h.elim
  | .lrow l nn e K :: r, seen, k, h => by
    simp only [Items.get] at h
    have hl : ∃ s he, st.hp l = some (he, s) := by
      unfold rowK at h
      simp only at h
      split at h
      · rename_i hl
        obtain ⟨s, hs⟩ := look_some hl
        exact ⟨s, _, hs⟩
      · exact h.elim
    obtain ⟨s, he, hs⟩ := hl
    obtain ⟨v, hv, hok⟩ := m.hps l _ s hs
    have hsl : ∃ A n c, v = .slice A n c := by
      unfold rowK at h
      simp only at h
      split at h
      · rename_i hl
        obtain ⟨s', hs'⟩ := look_some hl
        rw [hs] at hs'; cases hs'
        obtain ⟨_, ⟨flat, ⟨_, ho⟩, _⟩, _⟩ := hok
        rcases ho with ⟨h, _⟩ | ⟨g, cap, cur, h, _⟩ <;> exact ⟨_, _, _, h⟩
      · exact h.elim
    obtain ⟨xs, src, hrow, hcase⟩ := rowK_ok m (v := v) (sv := .mk false [.own l]) ⟨_, rfl, hv, hsl⟩ h
    rcases hcase with ⟨rfl, h, _, _, hno⟩ | ⟨l', rfl, hseen, h, hsv⟩
    · cases hno
    · cases hsv
      obtain ⟨g, L, hkg, hrep, hsrc⟩ := get_ok hct m kept r _ _ h
      exact ⟨(xs, g), (l, _, some l) :: L, hkg, ⟨_, _, _, rfl, rfl, hrow, hrep⟩, hseen, hsrc⟩
  | .mat t l vl nn e ag e1 K1 :: r, seen, k, h => by
    simp only [Items.get] at h
    obtain ⟨xs, us, src, hmat, hcase⟩ := matK_ok m (m.tms t) h
    rcases hcase with ⟨rfl, h, _⟩ | ⟨l', rfl, hseen, h, _⟩
    · obtain ⟨g, L, hkg, hrep, hsrc⟩ := get_ok hct m kept r seen _ h
      exact ⟨(xs, g), (l, _, none) :: (vl, .tuple us.toArray, none) :: L, hkg, ⟨_, _, us, _, rfl, rfl, hmat, hrep⟩, hsrc⟩
    · obtain ⟨g, L, hkg, hrep, hsrc⟩ := get_ok hct m kept r _ _ h
      exact ⟨(xs, g), (l, _, some l') :: (vl, .tuple us.toArray, none) :: L, hkg, ⟨_, _, us, _, rfl, rfl, hmat, hrep⟩, hseen, hsrc⟩
  | .lmat l vl nn e ag e1 K1 :: r, seen, k, h => by
    simp only [Items.get] at h
    have hl : ∃ nn e ag e1, ∃ K1 : Kd, ∃ (xs : List (List K1.T)) (vl s : Nat), st.hp l = some (.mat nn e ag e1 K1 xs none vl, s) := by
      unfold matK at h
      simp only at h
      split at h
      · rename_i hl
        obtain ⟨s, hs⟩ := look_some hl
        exact ⟨_, _, _, _, _, _, _, s, hs⟩
      · exact h.elim
    obtain ⟨nn0, e0, ag0, e10, K10, xs0, vl0, s, hs⟩ := hl
    obtain ⟨v, hv, ⟨us0, hu0, mo0⟩, _⟩ := m.hps l _ s hs
    have hsl : ∃ A n c, v = .slice A n c := by
      obtain ⟨hd, ⟨_, ho⟩, _⟩ := mo0.out
      rcases ho with ⟨h, _⟩ | ⟨g, cap, cur, h, _⟩ <;> exact ⟨_, _, _, h⟩
    obtain ⟨xs, us, src, hmat, hcase⟩ := matK_ok m (v := v) (sv := .mk false [.own l]) ⟨_, rfl, hv, hsl⟩ h
    rcases hcase with ⟨rfl, h, _, _, hno⟩ | ⟨l', rfl, hseen, h, hsv⟩
    · cases hno
    · cases hsv
      obtain ⟨g, L, hkg, hrep, hsrc⟩ := get_ok hct m kept r _ _ h
      exact ⟨(xs, g), (l, _, some l) :: (vl, .tuple us.toArray, none) :: L, hkg, ⟨_, _, us, _, rfl, rfl, hmat, hrep⟩, hseen, hsrc⟩

def lookL : List RowE → Nat → Option (Value × Option Nat)
  | [], _ => none
  | (l, v, s) :: r, k => cond (Nat.beq k l) (some (v, s)) (lookL r k)

def Lab.atHead (ρ : Lab) (L : List RowE) (dom0 : List Nat) : Lab := fun l =>
  match lookL L l with
  | some q => some q.1
  | none => cond (memL l dom0) (ρ l) none

theorem srcOK_seen {L : List RowE} : ∀ {seen : List Nat}, SrcOK seen L → ∀ {l v q}, (l, v, some q) ∈ L → memL q seen = false := by
  induction L with
  | nil => intro seen h l v q hq; simp at hq
  | cons x r ih =>
    intro seen h l v q hq
    obtain ⟨l0, v0, s0⟩ := x
    cases s0 with
    | none =>
      rcases List.mem_cons.1 hq with h1 | h1
      · cases h1
      · exact ih h h1
    | some q0 =>
      rcases List.mem_cons.1 hq with h1 | h1
      · cases h1; exact h.1
      · have := ih h.2 h1
        rw [memL_cons] at this
        simp only [Bool.or_eq_false_iff] at this
        exact this.2

theorem srcOK_inj {L : List RowE} : ∀ {seen : List Nat}, SrcOK seen L → ∀ {l v l' v' q}, (l, v, some q) ∈ L → (l', v', some q) ∈ L → l = l' := by
  induction L with
  | nil => intro seen h l v l' v' q hq; simp at hq
  | cons x r ih =>
    intro seen h l v l' v' q hq hq'
    obtain ⟨l0, v0, s0⟩ := x
    cases s0 with
    | none =>
      rcases List.mem_cons.1 hq with h1 | h1
      · cases h1
      · rcases List.mem_cons.1 hq' with h2 | h2
        · cases h2
        · exact ih h h1 h2
    | some q0 =>
      rcases List.mem_cons.1 hq with h1 | h1 <;> rcases List.mem_cons.1 hq' with h2 | h2
      · cases h1; cases h2; rfl
      · cases h1
        have := srcOK_seen h.2 h2
        rw [memL_cons] at this; simp at this
      · cases h2
        have := srcOK_seen h.2 h1
        rw [memL_cons] at this; simp at this
      · exact ih h.2 h1 h2

section
variable {its : Items} {kept : Nat → Bool} {base : Nat}

theorem rep_labs : ∀ {its : Items} {g : its.G} {L : List RowE}, its.Rep P base st ρ X W a kept g L → ∀ {l v src}, (l, v, src) ∈ L → memL l its.labs = true
  | [], g, L, h, l, v, src, hq => by rw [show L = [] from h] at hq; simp at hq
  | .t t K :: r, g, L, h, l, v, src, hq => rep_labs (its := r) h.2 hq
  | .row t l0 nn e K :: r, g, L, ⟨v0, s0, L', hL, _, _, h⟩, l, v, src, hq => by
    subst hL
    simp only [Items.labs, memL_cons]
    rcases List.mem_cons.1 hq with h1 | h1
    · cases h1; simp
    · rw [rep_labs (its := r) h h1]; simp
  | .cell l0 ty K :: r, g, L, h, l, v, src, hq => by
    simp only [Items.labs, memL_cons]
    rw [rep_labs (its := r) h.2 hq]; simp
  | .crow l0 ty m nn e K K2 :: r, g, L, ⟨v0, s0, L', hL, _, _, h⟩, l, v, src, hq => by
    subst hL
    simp only [Items.labs, memL_cons]
    rcases List.mem_cons.1 hq with h1 | h1
    · cases h1; simp
    · rw [rep_labs (its := r) h h1]; simp
  | .crow2 l0 ty m nn e K K2 m' nn' e' K' :: r, g, L, ⟨v0, s0, v1, s1, L', hL, _, _, _, h⟩, l, v, src, hq => by
    subst hL
    simp only [Items.labs, memL_cons]
    rcases List.mem_cons.1 hq with h1 | hq
    · cases h1; simp
    rcases List.mem_cons.1 hq with h1 | h1
    · cases h1; simp
    · rw [rep_labs (its := r) h h1]; simp
  | .drow l0 ty K2 m nn e K :: r, g, L, ⟨v0, s0, L', hL, _, _, h⟩, l, v, src, hq => by
    subst hL
    simp only [Items.labs, memL_cons]
    rcases List.mem_cons.1 hq with h1 | h1
    · cases h1; simp
    · rw [rep_labs (its := r) h h1]; simp
  | .lrow l0 nn e K :: r, g, L, ⟨v0, s0, L', hL, _, _, h⟩, l, v, src, hq => by
    subst hL
    simp only [Items.labs, memL_cons]
    rcases List.mem_cons.1 hq with h1 | h1
    · cases h1; simp
    · rw [rep_labs (its := r) h h1]; simp
  | .mat t l0 vl nn e ag e1 K1 :: r, g, L, ⟨v0, s0, us, L', hL, _, _, h⟩, l, v, src, hq => by
    subst hL
    simp only [Items.labs, memL_cons]
    rcases List.mem_cons.1 hq with h1 | h1
    · cases h1; simp
    · rcases List.mem_cons.1 h1 with h1 | h1
      · cases h1; simp
      · rw [rep_labs (its := r) h h1]; simp
  | .lmat l0 vl nn e ag e1 K1 :: r, g, L, ⟨v0, s0, us, L', hL, _, _, h⟩, l, v, src, hq => by
    subst hL
    simp only [Items.labs, memL_cons]
    rcases List.mem_cons.1 hq with h1 | h1
    · cases h1; simp
    · rcases List.mem_cons.1 h1 with h1 | h1
      · cases h1; simp
      · rw [rep_labs (its := r) h h1]; simp

theorem lookL_mem {L : List RowE} : ∀ {k q}, lookL L k = some q → (k, q.1, q.2) ∈ L := by
  induction L with
  | nil => intro k q h; cases h
  | cons x r ih =>
    intro k q h
    obtain ⟨l0, v0, s0⟩ := x
    simp only [lookL] at h
    by_cases hk : k = l0
    · subst hk
      simp only [Nat.beq_refl, cond_true, Option.some.injEq] at h
      subst h
      exact List.mem_cons_self
    · rw [beq_ne hk, cond_false] at h
      exact List.mem_cons_of_mem _ (ih h)

theorem nodupL_cons {l : Nat} {r : List Nat} (h : nodupL (l :: r) = true) : memL l r = false ∧ nodupL r = true := by
  simpa [nodupL] using h

theorem rep_look : ∀ {its : Items} {g : its.G} {L : List RowE}, nodupL its.labs = true → its.Rep P base st ρ X W a kept g L → ∀ {l v src}, (l, v, src) ∈ L → lookL L l = some (v, src)
  | [], g, L, _, h, l, v, src, hq => by rw [show L = [] from h] at hq; simp at hq
  | .t t K :: r, g, L, hn, h, l, v, src, hq => rep_look (its := r) hn h.2 hq
  | .row t l0 nn e K :: r, g, L, hn, ⟨v0, s0, L', hL, _, _, h⟩, l, v, src, hq => by
    subst hL
    obtain ⟨h1, h2⟩ := nodupL_cons hn
    simp only [lookL]
    rcases List.mem_cons.1 hq with h3 | h3
    · cases h3; simp
    · have := rep_labs (its := r) h h3
      have hne : l ≠ l0 := by intro hh; subst hh; rw [this] at h1; cases h1
      rw [beq_ne hne, cond_false]
      exact rep_look (its := r) h2 h h3
  | .cell l0 ty K :: r, g, L, hn, h, l, v, src, hq => rep_look (its := r) (nodupL_cons hn).2 h.2 hq
  | .crow l0 ty m nn e K K2 :: r, g, L, hn, ⟨v0, s0, L', hL, _, _, h⟩, l, v, src, hq => by
    subst hL
    obtain ⟨h1, h2⟩ := nodupL_cons (nodupL_cons hn).2
    simp only [lookL]
    rcases List.mem_cons.1 hq with h3 | h3
    · cases h3; simp
    · have := rep_labs (its := r) h h3
      have hne : l ≠ m := by intro hh; subst hh; rw [this] at h1; cases h1
      rw [beq_ne hne, cond_false]
      exact rep_look (its := r) h2 h h3
  | .crow2 l0 ty m nn e K K2 m' nn' e' K' :: r, g, L, hn, ⟨v0, s0, v1, s1, L', hL, _, _, _, h⟩, l, v, src, hq => by
    subst hL
    obtain ⟨h1, h2⟩ := nodupL_cons (nodupL_cons hn).2
    obtain ⟨h3, h4⟩ := nodupL_cons h2
    simp only [memL_cons, Bool.or_eq_false_iff] at h1
    simp only [lookL]
    rcases List.mem_cons.1 hq with h5 | hq
    · cases h5; simp
    rcases List.mem_cons.1 hq with h5 | h5
    · cases h5
      have hne : m' ≠ m := by intro hh; subst hh; simp at h1
      rw [beq_ne hne, cond_false]; simp
    · have := rep_labs (its := r) h h5
      have hne : l ≠ m := by intro hh; subst hh; rw [this] at h1; cases h1.2
      have hne' : l ≠ m' := by intro hh; subst hh; rw [this] at h3; cases h3
      rw [beq_ne hne, cond_false, beq_ne hne', cond_false]
      exact rep_look (its := r) h4 h h5
  | .drow l0 ty K2 m nn e K :: r, g, L, hn, ⟨v0, s0, L', hL, _, _, h⟩, l, v, src, hq => by
    subst hL
    obtain ⟨h1, h2⟩ := nodupL_cons (nodupL_cons hn).2
    simp only [lookL]
    rcases List.mem_cons.1 hq with h3 | h3
    · cases h3; simp
    · have := rep_labs (its := r) h h3
      have hne : l ≠ m := by intro hh; subst hh; rw [this] at h1; cases h1
      rw [beq_ne hne, cond_false]
      exact rep_look (its := r) h2 h h3
  | .lrow l0 nn e K :: r, g, L, hn, ⟨v0, s0, L', hL, _, _, h⟩, l, v, src, hq => by
    subst hL
    obtain ⟨h1, h2⟩ := nodupL_cons hn
    simp only [lookL]
    rcases List.mem_cons.1 hq with h3 | h3
    · cases h3; simp
    · have := rep_labs (its := r) h h3
      have hne : l ≠ l0 := by intro hh; subst hh; rw [this] at h1; cases h1
      rw [beq_ne hne, cond_false]
      exact rep_look (its := r) h2 h h3
  | .mat t l0 vl nn e ag e1 K1 :: r, g, L, hn, ⟨v0, s0, us, L', hL, _, _, h⟩, l, v, src, hq => by
    subst hL
    obtain ⟨h1, h2⟩ := nodupL_cons hn
    obtain ⟨h2, h4⟩ := nodupL_cons h2
    rw [memL_cons, Bool.or_eq_false_iff] at h1
    simp only [lookL]
    rcases List.mem_cons.1 hq with h3 | h3
    · cases h3; simp
    · rcases List.mem_cons.1 h3 with h3 | h3
      · cases h3
        have hne : vl ≠ l0 := by intro hh; subst hh; simp at h1
        rw [beq_ne hne, cond_false]; simp
      · have := rep_labs (its := r) h h3
        have hne : l ≠ l0 := by intro hh; subst hh; rw [this] at h1; cases h1.2
        have hne2 : l ≠ vl := by intro hh; subst hh; rw [this] at h2; cases h2
        rw [beq_ne hne, cond_false, beq_ne hne2, cond_false]
        exact rep_look (its := r) h4 h h3
  | .lmat l0 vl nn e ag e1 K1 :: r, g, L, hn, ⟨v0, s0, us, L', hL, _, _, h⟩, l, v, src, hq => by
    subst hL
    obtain ⟨h1, h2⟩ := nodupL_cons hn
    obtain ⟨h2, h4⟩ := nodupL_cons h2
    rw [memL_cons, Bool.or_eq_false_iff] at h1
    simp only [lookL]
    rcases List.mem_cons.1 hq with h3 | h3
    · cases h3; simp
    · rcases List.mem_cons.1 h3 with h3 | h3
      · cases h3
        have hne : vl ≠ l0 := by intro hh; subst hh; simp at h1
        rw [beq_ne hne, cond_false]; simp
      · have := rep_labs (its := r) h h3
        have hne : l ≠ l0 := by intro hh; subst hh; rw [this] at h1; cases h1.2
        have hne2 : l ≠ vl := by intro hh; subst hh; rw [this] at h2; cases h2
        rw [beq_ne hne, cond_false, beq_ne hne2, cond_false]
        exact rep_look (its := r) h4 h h3

theorem rep_old {st0 : St} {wr : List Nat} : ∀ {its : Items} {g : its.G} {L : List RowE}, its.ok st0 wr = true → its.Rep P base st ρ X W a kept g L → ∀ {l v src}, (l, v, src) ∈ L → memL l st0.dom = true → ρ l = some v
  | [], g, L, _, h, l, v, src, hq, _ => by rw [show L = [] from h] at hq; simp at hq
  | .t t K :: r, g, L, hn, h, l, v, src, hq, hd => by
    simp only [Items.ok, Bool.and_eq_true] at hn
    exact rep_old (its := r) hn.2 h.2 hq hd
  | .row t l0 nn e K :: r, g, L, hn, ⟨v0, s0, L', hL, _, _, h⟩, l, v, src, hq, hd => by
    subst hL
    simp only [Items.ok, Bool.and_eq_true, Bool.not_eq_true'] at hn
    rcases List.mem_cons.1 hq with h3 | h3
    · cases h3; rw [hd] at hn; cases hn.1.2
    · exact rep_old (its := r) hn.2 h h3 hd
  | .cell l0 ty K :: r, g, L, hn, h, l, v, src, hq, hd => by
    simp only [Items.ok, Bool.and_eq_true] at hn
    exact rep_old (its := r) hn.2 h.2 hq hd
  | .crow l0 ty m nn e K K2 :: r, g, L, hn, ⟨v0, s0, L', hL, _, _, h⟩, l, v, src, hq, hd => by
    subst hL
    simp only [Items.ok, Bool.and_eq_true, Bool.not_eq_true'] at hn
    rcases List.mem_cons.1 hq with h3 | h3
    · cases h3; rw [hd] at hn; cases hn.1.2
    · exact rep_old (its := r) hn.2 h h3 hd
  | .crow2 l0 ty m nn e K K2 m' nn' e' K' :: r, g, L, hn, ⟨v0, s0, v1, s1, L', hL, _, _, _, h⟩, l, v, src, hq, hd => by
    subst hL
    simp only [Items.ok, Bool.and_eq_true, Bool.not_eq_true'] at hn
    rcases List.mem_cons.1 hq with h3 | hq
    · cases h3; rw [hd] at hn; cases hn.1.1.2
    rcases List.mem_cons.1 hq with h3 | h3
    · cases h3; rw [hd] at hn; cases hn.1.2
    · exact rep_old (its := r) hn.2 h h3 hd
  | .drow l0 ty K2 m nn e K :: r, g, L, hn, ⟨v0, s0, L', hL, _, _, h⟩, l, v, src, hq, hd => by
    subst hL
    simp only [Items.ok, Bool.and_eq_true, Bool.not_eq_true'] at hn
    rcases List.mem_cons.1 hq with h3 | h3
    · cases h3; rw [hd] at hn; cases hn.1.2
    · exact rep_old (its := r) hn.2 h h3 hd
  | .lrow l0 nn e K :: r, g, L, hn, ⟨v0, s0, L', hL, hsrc, hrow, h⟩, l, v, src, hq, hd => by
    subst hL
    simp only [Items.ok, Bool.and_eq_true] at hn
    rcases List.mem_cons.1 hq with h3 | h3
    · cases h3
      subst hsrc
      obtain ⟨_, _, _, _, _, _, _, _, hρ, _⟩ := hrow
      exact hρ
    · exact rep_old (its := r) hn.2 h h3 hd
  | .mat t l0 vl nn e ag e1 K1 :: r, g, L, hn, ⟨v0, s0, us, L', hL, _, _, h⟩, l, v, src, hq, hd => by
    subst hL
    simp only [Items.ok, Bool.and_eq_true, Bool.not_eq_true'] at hn
    rcases List.mem_cons.1 hq with h3 | h3
    · cases h3; rw [hd] at hn; cases hn.1.1.2
    · rcases List.mem_cons.1 h3 with h3 | h3
      · cases h3; rw [hd] at hn; cases hn.1.2
      · exact rep_old (its := r) hn.2 h h3 hd
  | .lmat l0 vl nn e ag e1 K1 :: r, g, L, hn, ⟨v0, s0, us, L', hL, hsrc, hmat, h⟩, l, v, src, hq, hd => by
    subst hL
    simp only [Items.ok, Bool.and_eq_true, Bool.not_eq_true'] at hn
    rcases List.mem_cons.1 hq with h3 | h3
    · cases h3
      subst hsrc
      obtain ⟨_, _, _, _, _, _, _, _, _, _, _, _, hρ, _⟩ := hmat
      exact hρ
    · rcases List.mem_cons.1 h3 with h3 | h3
      · cases h3; rw [hd] at hn; cases hn.1.2
      · exact rep_old (its := r) hn.2 h h3 hd

theorem rep_tm {ρh : Lab} : ∀ {its : Items} {g : its.G} {L : List RowE}, its.Rep P base st ρ X W a kept g L → (∀ l v src, (l, v, src) ∈ L → ρh l = some v) → ∀ {t sv}, its.tm g t = some sv → RepV P ρh X W sv (a.tmps.getD t undef)
  | [], g, L, _, _, t, sv, h => by cases h
  | .t t0 K :: r, g, L, h, hL, t, sv, ht => by
    simp only [Items.tm] at ht
    by_cases hk : t = t0
    · subst hk
      simp only [Nat.beq_refl, cond_true, Option.some.injEq] at ht
      subst ht
      exact h.1 ρh
    · rw [beq_ne hk, cond_false] at ht
      exact rep_tm (its := r) h.2 hL ht
  | .row t0 l0 nn e K :: r, g, L, ⟨v0, s0, L', hLL, hv, hrow, h⟩, hL, t, sv, ht => by
    subst hLL
    simp only [Items.tm] at ht
    by_cases hk : t = t0
    · subst hk
      simp only [Nat.beq_refl, cond_true, Option.some.injEq] at ht
      subst ht
      refine ⟨_, rfl, ?_, ?_⟩
      · rw [hv]; exact hL _ _ _ List.mem_cons_self
      · rw [hv]; exact hrow.2.1
    · rw [beq_ne hk, cond_false] at ht
      exact rep_tm (its := r) h (fun l v src hq => hL l v src (List.mem_cons_of_mem _ hq)) ht
  | .cell l0 ty K :: r, g, L, h, hL, t, sv, ht => rep_tm (its := r) h.2 hL ht
  | .crow l0 ty m nn e K K2 :: r, g, L, ⟨v0, s0, L', hLL, _, _, h⟩, hL, t, sv, ht => by
    subst hLL
    exact rep_tm (its := r) h (fun l v src hq => hL l v src (List.mem_cons_of_mem _ hq)) ht
  | .crow2 l0 ty m nn e K K2 m' nn' e' K' :: r, g, L, ⟨v0, s0, v1, s1, L', hLL, _, _, _, h⟩, hL, t, sv, ht => by
    subst hLL
    exact rep_tm (its := r) h (fun l v src hq => hL l v src (List.mem_cons_of_mem _ (List.mem_cons_of_mem _ hq))) ht
  | .drow l0 ty K2 m nn e K :: r, g, L, ⟨v0, s0, L', hLL, _, _, h⟩, hL, t, sv, ht => by
    subst hLL
    exact rep_tm (its := r) h (fun l v src hq => hL l v src (List.mem_cons_of_mem _ hq)) ht
  | .lrow l0 nn e K :: r, g, L, ⟨v0, s0, L', hLL, _, _, h⟩, hL, t, sv, ht => by
    subst hLL
    exact rep_tm (its := r) h (fun l v src hq => hL l v src (List.mem_cons_of_mem _ hq)) ht
  | .mat t0 l0 vl nn e ag e1 K1 :: r, g, L, ⟨v0, s0, us, L', hLL, hv, hmat, h⟩, hL, t, sv, ht => by
    subst hLL
    simp only [Items.tm] at ht
    by_cases hk : t = t0
    · subst hk
      simp only [Nat.beq_refl, cond_true, Option.some.injEq] at ht
      subst ht
      refine ⟨_, rfl, ?_, ?_⟩
      · rw [hv]; exact hL _ _ _ List.mem_cons_self
      · rw [hv]; exact hmat.2.2.1
    · rw [beq_ne hk, cond_false] at ht
      exact rep_tm (its := r) h (fun l v src hq => hL l v src (List.mem_cons_of_mem _ (List.mem_cons_of_mem _ hq))) ht
  | .lmat l0 vl nn e ag e1 K1 :: r, g, L, ⟨v0, s0, us, L', hLL, _, _, h⟩, hL, t, sv, ht => by
    subst hLL
    exact rep_tm (its := r) h (fun l v src hq => hL l v src (List.mem_cons_of_mem _ (List.mem_cons_of_mem _ hq))) ht

theorem tm_wr {st0 : St} {wr : List Nat} : ∀ {its : Items} {g : its.G}, its.ok st0 wr = true → ∀ {t sv}, its.tm g t = some sv → memL t wr = true
  | [], g, _, t, sv, h => by cases h
  | .t t0 K :: r, g, h, t, sv, ht => by
    simp only [Items.ok, Bool.and_eq_true] at h
    simp only [Items.tm] at ht
    by_cases hk : t = t0
    · subst hk; exact h.1
    · rw [beq_ne hk, cond_false] at ht
      exact tm_wr (its := r) h.2 ht
  | .row t0 l0 nn e K :: r, g, h, t, sv, ht => by
    simp only [Items.ok, Bool.and_eq_true] at h
    simp only [Items.tm] at ht
    by_cases hk : t = t0
    · subst hk; exact h.1.1
    · rw [beq_ne hk, cond_false] at ht
      exact tm_wr (its := r) h.2 ht
  | .cell l0 ty K :: r, g, h, t, sv, ht => by
    simp only [Items.ok, Bool.and_eq_true] at h
    exact tm_wr (its := r) h.2 ht
  | .crow l0 ty m nn e K K2 :: r, g, h, t, sv, ht => by
    simp only [Items.ok, Bool.and_eq_true] at h
    exact tm_wr (its := r) h.2 ht
  | .crow2 l0 ty m nn e K K2 m' nn' e' K' :: r, g, h, t, sv, ht => by
    simp only [Items.ok, Bool.and_eq_true] at h
    exact tm_wr (its := r) h.2 ht
  | .drow l0 ty K2 m nn e K :: r, g, h, t, sv, ht => by
    simp only [Items.ok, Bool.and_eq_true] at h
    exact tm_wr (its := r) h.2 ht
  | .lrow l0 nn e K :: r, g, h, t, sv, ht => by
    simp only [Items.ok, Bool.and_eq_true] at h
    exact tm_wr (its := r) h.2 ht
  | .mat t0 l0 vl nn e ag e1 K1 :: r, g, h, t, sv, ht => by
    simp only [Items.ok, Bool.and_eq_true] at h
    simp only [Items.tm] at ht
    by_cases hk : t = t0
    · subst hk; exact h.1.1.1
    · rw [beq_ne hk, cond_false] at ht
      exact tm_wr (its := r) h.2 ht
  | .lmat l0 vl nn e ag e1 K1 :: r, g, h, t, sv, ht => by
    simp only [Items.ok, Bool.and_eq_true] at h
    exact tm_wr (its := r) h.2 ht

inductive HeadIs (P : Program) (base : Nat) (st : St) (ρ : Lab) (X : Nat → Prop) (W : World) (kept : Nat → Bool) (L : List RowE) (labs : List Nat) (dom0 : List Nat) (c : Nat) (h : Nat → Option (HE × Nat)) (l : Nat) : HE → Nat → Prop where
  | old (he : HE) (s : Nat) (h1 : memL l labs = false) (h2 : h l = some (he, s)) : HeadIs P base st ρ X W kept L labs dom0 c h l he s
  | row (nn : Bool) (e : TypeId) (K : Kd) (xs : List K.T) (v : Value) (src : Option Nat) (h1 : (l, v, src) ∈ L) (h2 : RowIs P base st ρ X W kept nn e K xs v src) : HeadIs P base st ρ X W kept L labs dom0 c h l (.row nn e K xs) c
  | mat (nn : Bool) (e : TypeId) (ag : Bool) (e1 : TypeId) (K1 : Kd) (xs : List (List K1.T)) (vl : Nat) (us : List Value) (v : Value) (src : Option Nat) (h1 : (l, v, src) ∈ L) (h0 : (vl, .tuple us.toArray, none) ∈ L) (h2 : MatIs P st ρ W kept nn e e1 K1 xs us v src) : HeadIs P base st ρ X W kept L labs dom0 c h l (.mat nn e ag e1 K1 xs none vl) c
  | box (ty : TypeId) (cs : List SC) (b : Nat) (arr : Array Value) (ds : List SC) (s : Nat) (h0 : memL l labs = true) (hd : memL l dom0 = true) (h1 : ρ l = some (.pointer (some ⟨b, 0, none⟩))) (h2 : st.hp l = some (.box true ty ds, s)) (h3 : W.heap[b]? = some (.cells arr ty (0, 0)))
      (h4 : ∀ ρh : Lab, (∀ l v src, (l, v, src) ∈ L → ρh l = some v) → RepCs P ρh X W cs arr.toList) : HeadIs P base st ρ X W kept L labs dom0 c h l (.box true ty cs) c

theorem HeadIs.weak {L L' : List RowE} {labs labs' dom0 : List Nat} {c : Nat} {h : Nat → Option (HE × Nat)} {l : Nat} {he : HE} {s : Nat} (hi : HeadIs P base st ρ X W kept L labs dom0 c h l he s) (hL : ∀ x, x ∈ L → x ∈ L') (hl : memL l labs' = memL l labs) : HeadIs P base st ρ X W kept L' labs' dom0 c h l he s := by
  cases hi with
  | old he s h1 h2 => exact .old _ _ (by rw [hl]; exact h1) h2
  | row nn e K xs v src h1 h2 => exact .row nn e K xs v src (hL _ h1) h2
  | mat nn e ag e1 K1 xs vl us v src h1 h0 h2 => exact .mat nn e ag e1 K1 xs vl us v src (hL _ h1) (hL _ h0) h2
  | box ty cs b arr ds s h0 hd h1 h2 h3 h4 => exact .box ty cs b arr ds s (by rw [hl]; exact h0) hd h1 h2 h3 (fun ρh hh => h4 ρh (fun l v src hq => hh l v src (hL _ hq)))

theorem rep_hp {st0 : St} {wr : List Nat} {c : Nat} {h : Nat → Option (HE × Nat)} : ∀ {its : Items} {g : its.G} {L : List RowE}, its.ok st0 wr = true → its.Rep P base st ρ X W a kept g L → ∀ {l he s}, its.hp c h g l = some (he, s) →
    HeadIs P base st ρ X W kept L its.labs st0.dom c h l he s
  | [], g, L, _, hr, l, he, s, hl => .old he s rfl hl
  | .t t0 K :: r, g, L, ho, hr, l, he, s, hl => by
    simp only [Items.ok, Bool.and_eq_true] at ho
    exact rep_hp (its := r) ho.2 hr.2 hl
  | .row t0 l0 nn e K :: r, g, L, ho, ⟨v0, s0, L', hLL, hv, hrow, hr⟩, l, he, s, hl => by
    subst hLL
    simp only [Items.ok, Bool.and_eq_true] at ho
    simp only [Items.hp] at hl
    by_cases hk : l = l0
    · subst hk
      simp only [Nat.beq_refl, cond_true, Option.some.injEq, Prod.mk.injEq] at hl
      obtain ⟨rfl, rfl⟩ := hl
      exact .row nn e K g.1 v0 s0 List.mem_cons_self hrow
    · rw [beq_ne hk, cond_false] at hl
      exact (rep_hp (its := r) ho.2 hr hl).weak (fun x hx => List.mem_cons_of_mem _ hx) (by simp [Items.labs, memL_cons, beq_ne hk])
  | .cell l0 ty K :: r, g, L, ho, ⟨⟨b, arr, cs, s1, h1, h2, h3, h4⟩, hr⟩, l, he, s, hl => by
    simp only [Items.ok, Bool.and_eq_true] at ho
    simp only [Items.hp] at hl
    by_cases hk : l = l0
    · subst hk
      simp only [Nat.beq_refl, cond_true, Option.some.injEq, Prod.mk.injEq] at hl
      obtain ⟨rfl, rfl⟩ := hl
      exact .box ty _ b arr cs s1 (by simp [Items.labs, memL_cons]) ho.1 h1 h2 h3 (fun ρh _ => RepCs.of_cells K h4)
    · rw [beq_ne hk, cond_false] at hl
      exact (rep_hp (its := r) ho.2 hr hl).weak (fun x hx => hx) (by simp [Items.labs, memL_cons, beq_ne hk])
  | .crow l0 ty m nn e K K2 :: r, g, L, ho, ⟨v0, s0, L', hLL, ⟨b, arr, cs, s1, h1, h2, h3, us, h4, h5⟩, hrow, hr⟩, l, he, s, hl => by
    subst hLL
    simp only [Items.ok, Bool.and_eq_true] at ho
    simp only [Items.hp] at hl
    by_cases hk : l = l0
    · subst hk
      simp only [Nat.beq_refl, cond_true, Option.some.injEq, Prod.mk.injEq] at hl
      obtain ⟨rfl, rfl⟩ := hl
      refine .box ty _ b arr cs s1 (by simp [Items.labs, memL_cons]) ho.1.1 h1 h2 h3 (fun ρh hh => ?_)
      rw [h4]
      exact ⟨v0, us, rfl, ⟨hh _ _ _ List.mem_cons_self, hrow.2.1⟩, RepCs.of_cells K2 h5⟩
    · rw [beq_ne hk, cond_false] at hl
      by_cases hk2 : l = m
      · subst hk2
        simp only [Nat.beq_refl, cond_true, Option.some.injEq, Prod.mk.injEq] at hl
        obtain ⟨rfl, rfl⟩ := hl
        exact .row nn e K g.1.1 v0 s0 List.mem_cons_self hrow
      · rw [beq_ne hk2, cond_false] at hl
        exact (rep_hp (its := r) ho.2 hr hl).weak (fun x hx => List.mem_cons_of_mem _ hx) (by simp [Items.labs, memL_cons, beq_ne hk, beq_ne hk2])
  | .crow2 l0 ty m nn e K K2 m' nn' e' K' :: r, g, L, ho, ⟨v0, s0, v1, s2, L', hLL, ⟨b, arr, cs, s1, h1, h2, h3, us, h4, h5⟩, hrow, hrow', hr⟩, l, he, s, hl => by
    subst hLL
    simp only [Items.ok, Bool.and_eq_true] at ho
    simp only [Items.hp] at hl
    by_cases hk : l = l0
    · subst hk
      simp only [Nat.beq_refl, cond_true, Option.some.injEq, Prod.mk.injEq] at hl
      obtain ⟨rfl, rfl⟩ := hl
      refine .box ty _ b arr cs s1 (by simp [Items.labs, memL_cons]) ho.1.1.1 h1 h2 h3 (fun ρh hh => ?_)
      rw [h4]
      exact ⟨v0, us ++ [v1], rfl, ⟨hh _ _ _ List.mem_cons_self, hrow.2.1⟩, RepCs.append (RepCs.of_cells K2 h5) ⟨v1, [], rfl, ⟨hh _ _ _ (List.mem_cons_of_mem _ List.mem_cons_self), hrow'.2.1⟩, rfl⟩⟩
    · rw [beq_ne hk, cond_false] at hl
      by_cases hk2 : l = m
      · subst hk2
        simp only [Nat.beq_refl, cond_true, Option.some.injEq, Prod.mk.injEq] at hl
        obtain ⟨rfl, rfl⟩ := hl
        exact .row nn e K g.1.1 v0 s0 List.mem_cons_self hrow
      · rw [beq_ne hk2, cond_false] at hl
        by_cases hk3 : l = m'
        · subst hk3
          simp only [Nat.beq_refl, cond_true, Option.some.injEq, Prod.mk.injEq] at hl
          obtain ⟨rfl, rfl⟩ := hl
          exact .row nn' e' K' g.1.2.2 v1 s2 (List.mem_cons_of_mem _ List.mem_cons_self) hrow'
        · rw [beq_ne hk3, cond_false] at hl
          exact (rep_hp (its := r) ho.2 hr hl).weak (fun x hx => List.mem_cons_of_mem _ (List.mem_cons_of_mem _ hx)) (by simp [Items.labs, memL_cons, beq_ne hk, beq_ne hk2, beq_ne hk3])
  | .drow l0 ty K2 m nn e K :: r, g, L, ho, ⟨v0, s0, L', hLL, ⟨b, arr, cs, s1, h1, h2, h3, us, h4, h5⟩, hrow, hr⟩, l, he, s, hl => by
    subst hLL
    simp only [Items.ok, Bool.and_eq_true] at ho
    simp only [Items.hp] at hl
    by_cases hk : l = l0
    · subst hk
      simp only [Nat.beq_refl, cond_true, Option.some.injEq, Prod.mk.injEq] at hl
      obtain ⟨rfl, rfl⟩ := hl
      refine .box ty _ b arr cs s1 (by simp [Items.labs, memL_cons]) ho.1.1 h1 h2 h3 (fun ρh hh => ?_)
      rw [h4]
      exact RepCs.append (RepCs.of_cells K2 h5) ⟨v0, [], rfl, ⟨hh _ _ _ List.mem_cons_self, hrow.2.1⟩, rfl⟩
    · rw [beq_ne hk, cond_false] at hl
      by_cases hk2 : l = m
      · subst hk2
        simp only [Nat.beq_refl, cond_true, Option.some.injEq, Prod.mk.injEq] at hl
        obtain ⟨rfl, rfl⟩ := hl
        exact .row nn e K g.1.2 v0 s0 List.mem_cons_self hrow
      · rw [beq_ne hk2, cond_false] at hl
        exact (rep_hp (its := r) ho.2 hr hl).weak (fun x hx => List.mem_cons_of_mem _ hx) (by simp [Items.labs, memL_cons, beq_ne hk, beq_ne hk2])
  | .lrow l0 nn e K :: r, g, L, ho, ⟨v0, s0, L', hLL, _, hrow, hr⟩, l, he, s, hl => by
    subst hLL
    simp only [Items.ok, Bool.and_eq_true] at ho
    simp only [Items.hp] at hl
    by_cases hk : l = l0
    · subst hk
      simp only [Nat.beq_refl, cond_true, Option.some.injEq, Prod.mk.injEq] at hl
      obtain ⟨rfl, rfl⟩ := hl
      exact .row nn e K g.1 v0 s0 List.mem_cons_self hrow
    · rw [beq_ne hk, cond_false] at hl
      exact (rep_hp (its := r) ho.2 hr hl).weak (fun x hx => List.mem_cons_of_mem _ hx) (by simp [Items.labs, memL_cons, beq_ne hk])
  | .mat t0 l0 vl nn e ag e1 K1 :: r, g, L, ho, ⟨v0, s0, us, L', hLL, hv, hmat, hr⟩, l, he, s, hl => by
    subst hLL
    simp only [Items.ok, Bool.and_eq_true] at ho
    simp only [Items.hp] at hl
    by_cases hk : l = l0
    · subst hk
      simp only [Nat.beq_refl, cond_true, Option.some.injEq, Prod.mk.injEq] at hl
      obtain ⟨rfl, rfl⟩ := hl
      exact .mat nn e ag e1 K1 g.1 vl us v0 s0 List.mem_cons_self (List.mem_cons_of_mem _ List.mem_cons_self) hmat
    · rw [beq_ne hk, cond_false] at hl
      by_cases hk2 : l = vl
      · subst hk2; rw [Nat.beq_refl, cond_true] at hl; cases hl
      · rw [beq_ne hk2, cond_false] at hl
        exact (rep_hp (its := r) ho.2 hr hl).weak (fun x hx => List.mem_cons_of_mem _ (List.mem_cons_of_mem _ hx)) (by simp [Items.labs, memL_cons, beq_ne hk, beq_ne hk2])
  | .lmat l0 vl nn e ag e1 K1 :: r, g, L, ho, ⟨v0, s0, us, L', hLL, _, hmat, hr⟩, l, he, s, hl => by
    subst hLL
    simp only [Items.ok, Bool.and_eq_true] at ho
    simp only [Items.hp] at hl
    by_cases hk : l = l0
    · subst hk
      simp only [Nat.beq_refl, cond_true, Option.some.injEq, Prod.mk.injEq] at hl
      obtain ⟨rfl, rfl⟩ := hl
      exact .mat nn e ag e1 K1 g.1 vl us v0 s0 List.mem_cons_self (List.mem_cons_of_mem _ List.mem_cons_self) hmat
    · rw [beq_ne hk, cond_false] at hl
      by_cases hk2 : l = vl
      · subst hk2; rw [Nat.beq_refl, cond_true] at hl; cases hl
      · rw [beq_ne hk2, cond_false] at hl
        exact (rep_hp (its := r) ho.2 hr hl).weak (fun x hx => List.mem_cons_of_mem _ (List.mem_cons_of_mem _ hx)) (by simp [Items.labs, memL_cons, beq_ne hk, beq_ne hk2])
end

structure Ahead (P : Program) (st0 : St) (wr : List Nat) (its : Items) (st : St) : Prop where
  n : st.n = st0.n
  tm : ∀ t, memL t wr = false → st.tm t = st0.tm t
  hp : ∀ l he s, its.base st0 l = some (he, s) → memL l its.labs = false → ∃ s', st.hp l = some (he, s')
  utm : ∀ t, (st0.tm t).uses (fun l => memL l st0.dom = true)
  uhp : ∀ l he s, st0.hp l = some (he, s) → memL l st0.dom = true ∧ he.uses (fun l => memL l st0.dom = true) ∧ s ≤ st0.cnt

theorem base_some {its : Items} {l : Nat} {he : HE} {s : Nat} (h : its.base st0 l = some (he, s)) : st0.hp l = some (he, s) := by
  unfold Items.base at h
  cases hb : memL l (its.gone st0) with
  | true => rw [hb] at h; cases h
  | false => rw [hb] at h; exact h

theorem HEok.re {base : Nat} {he : HE} {v : Value} (hp : ∀ l, p l → ρ' l = ρ l) (h : HEok P base ρ X W he v) (hu : he.uses p) : HEok P base ρ' X W he v := by
  cases he with
  | box own ty cs =>
    obtain ⟨b, arr, h1, h2, h3, h4, h5⟩ := h
    exact ⟨b, arr, h1, h2, h3.re hp hu, h4, h5⟩
  | row nn e K xs => exact h
  | dat nn e K xs => exact h
  | ln e K xs => exact h
  | mat nn e ag e1 K1 xs hole vl =>
    obtain ⟨⟨us, h1, h2⟩, h3⟩ := h
    exact ⟨⟨us, by rw [hp vl hu]; exact h1, h2⟩, h3⟩

theorem OwnB.re {he : HE} {v : Value} {k : Nat} (hp : ∀ l, p l → ρ' l = ρ l) (h : OwnB ρ' he v k) (hu : he.uses p) : OwnB ρ he v k := by
  cases he with
  | mat nn e ag e1 K1 xs hole vl =>
    rcases h with h | ⟨vl', j, u, us, h1, h2, h3, h4⟩
    · exact .inl h
    · have : vl' = vl := by
        cases hh : isHole hole j with
        | true => simp [HE.ver, hh] at h1
        | false => simp only [HE.ver, hh, cond_false, Option.some.injEq] at h1; exact h1.symm
      subst this
      exact .inr ⟨vl', j, u, us, h1, by rw [← hp vl' hu]; exact h2, h3, h4⟩
  | box own ty cs => exact ownB_box.2 (ownB_box.1 h)
  | row nn e K xs => exact ownB_row.2 (ownB_row.1 h)
  | dat nn e K xs => exact ownB_dat.2 (ownB_dat.1 h)
  | ln e K xs => exact ownB_ln.2 (ownB_ln.1 h)

def isRM : HE → Bool
  | .row _ _ _ _ => true
  | .mat _ _ _ _ _ _ _ _ => true
  | _ => false

theorem Mt.head (hct : CtOK P glb S) (m : Mt P glb Bk X0 w0 st ρ a W) (its : Items) (wr : List Nat) (hA : Ahead P st0 wr its st) (hnd : nodupL its.labs = true) (hok : its.ok st0 wr = true) {k : its.G → Prop}
    (hget : its.get S (its.kept st0) st [] k) : ∃ g ρh, k g ∧ Mt P glb Bk X0 w0 (its.head st0 wr g) ρh a W ∧ (∀ l, memL l st0.dom = true → ρh l = ρ l) ∧ ∀ k, Xs (its.head st0 wr g) ρh X0 k → Xs st ρ X0 k := by
  obtain ⟨g, L, hk, hrep, hsrc⟩ := get_ok hct m (its.kept st0) its [] k hget
  refine ⟨g, ρ.atHead L st0.dom, hk, ?_⟩
  have hrow : ∀ l v src, (l, v, src) ∈ L → (ρ.atHead L st0.dom) l = some v := by
    intro l v src hq
    unfold Lab.atHead
    rw [rep_look hnd hrep hq]
  have hold : ∀ l, memL l st0.dom = true → (ρ.atHead L st0.dom) l = ρ l := by
    intro l hl
    unfold Lab.atHead
    cases hq : lookL L l with
    | none => simp [hl]
    | some q => exact (rep_old hok hrep (lookL_mem hq) hl).symm
  have hhead : ∀ {l he s}, (its.head st0 wr g).hp l = some (he, s) → HeadIs P 0 st ρ (Xs st ρ X0) W (its.kept st0) L its.labs st0.dom (st0.cnt + 1) (its.base st0) l he s := fun {l he s} h => rep_hp hok hrep h

  have hsource : ∀ {l he s v k}, (its.head st0 wr g).hp l = some (he, s) → (ρ.atHead L st0.dom) l = some v → OwnB (ρ.atHead L st0.dom) he v k →
      ∃ q he2 s2, st.hp q = some (he2, s2) ∧ ρ q = some v ∧ OwnB ρ he2 v k ∧ ((q = l ∧ its.kept st0 l = true ∧ he = he2) ∨ ((l, v, some q) ∈ L ∧ isRM he2 = true ∧ its.kept st0 q = false) ∨ (q = l ∧ memL l its.labs = true ∧ ∃ ty cs, he2 = .box true ty cs)) := by
    intro l he s v k h hv hb
    cases hhead h with
    | old he s h1 h2 =>
      obtain ⟨s', hs'⟩ := hA.hp l he s h2 h1
      obtain ⟨hd, hu, _⟩ := hA.uhp l he s (base_some h2)
      rw [hold l hd] at hv
      exact ⟨l, he, s', hs', hv, hb.re hold hu, .inl ⟨rfl, by simp [Items.kept, h1, h2], rfl⟩⟩
    | row nn e K xs v' src h1 h2 =>
      rw [hrow l v' src h1] at hv
      cases hv
      rw [ownB_row, ownBlk_row] at hb
      obtain ⟨h3, _, h4⟩ := h2
      cases src with
      | none => rw [show v.ownBlock = none from h4] at hb; cases hb
      | some q =>
        obtain ⟨nn', e', K', xs', s', g1, g2, g3⟩ := h4
        exact ⟨q, _, s', g1, g2, by rw [ownB_row, ownBlk_row]; exact hb, .inr (.inl ⟨h1, rfl, g3⟩)⟩
    | mat nn e ag e1 K1 xs vl us v' src h1 h0 h2 =>
      rw [hrow l v' src h1] at hv
      cases hv
      have hbb := (mat_own (hrow vl _ _ h0)).1 hb
      obtain ⟨_, _, _, h4⟩ := h2
      cases src with
      | none =>
        obtain ⟨h5, h6⟩ := h4
        rcases hbb with hbb | ⟨j, u, _, hj, _⟩
        · rw [h5] at hbb; cases hbb
        · rw [h6] at hj; simp at hj
      | some q =>
        obtain ⟨nn', e', ag', e1', K1', xs', vl', s', g1, g2, gu, g3⟩ := h4
        refine ⟨q, _, s', g1, g2, (mat_own gu).2 ?_, .inr (.inl ⟨h1, rfl, g3⟩)⟩
        rcases hbb with hbb | ⟨j, u, _, hj, hk⟩
        · exact .inl hbb
        · exact .inr ⟨j, u, rfl, hj, hk⟩
    | box ty cs b arr ds s h0 hd h1 h2 h3 h4 =>
      rw [hold l hd] at hv
      exact ⟨l, _, s, h2, hv, by rw [h1] at hv; cases hv; rw [ownB_box] at hb ⊢; exact hb, .inr (.inr ⟨rfl, h0, _, _, rfl⟩)⟩
  have hX : ∀ k, Xs (its.head st0 wr g) (ρ.atHead L st0.dom) X0 k → Xs st ρ X0 k := by
    rintro k (h | ⟨l, he, s, v, h1, h2, h3⟩)
    · exact .inl h
    · obtain ⟨q, he2, s2, g1, g2, g3, _⟩ := hsource h1 h2 h3
      exact .inr ⟨q, he2, s2, v, g1, g2, g3⟩
  have ev : Evo (Xs st ρ X0) W (Xs (its.head st0 wr g) (ρ.atHead L st0.dom) X0) W := Evo.mono (fun k hk => m.Xlt k (hX k hk)) hX
  refine ⟨⟨?_, m.dfr, ?_, ?_, ?_, m.x0, m.bk, m.bel, ?_, m.glb.evo ev, ?_, ?_⟩, hold, hX⟩
  · show a.tmps.size = st0.n
    rw [← hA.n]; exact m.size
  · intro t
    show RepV P _ _ W (match its.tm g t with
      | some v => v
      | none => cond (memL t wr) .any (st0.tm t)) _
    cases ht : its.tm g t with
    | some sv => exact (rep_tm hrep hrow ht).mono (Lab.le_refl _) ev
    | none =>
      cases hw : memL t wr with
      | true => trivial
      | false =>
        have h1 := m.tms t
        rw [hA.tm t hw] at h1
        exact (h1.re hold (hA.utm t)).mono (Lab.le_refl _) ev
  · intro l he s h
    cases hhead h with
    | old he s h1 h2 =>
      obtain ⟨s', hs'⟩ := hA.hp l he s h2 h1
      obtain ⟨hd, hu, _⟩ := hA.uhp l he s (base_some h2)
      obtain ⟨v, hv, hok'⟩ := m.hps l he s' hs'
      exact ⟨v, by rw [hold l hd]; exact hv, (hok'.re hold hu).mono (Lab.le_refl _) ev (fun _ _ => rfl)⟩
    | row nn e K xs v src h1 h2 =>
      have h3 : HEok P 0 (ρ.atHead L st0.dom) (Xs st ρ X0) W (.row nn e K xs) v := h2.1
      exact ⟨v, hrow l v src h1, h3.mono (Lab.le_refl _) ev (fun _ _ => rfl)⟩
    | mat nn e ag e1 K1 xs vl us v src h1 h0 h2 => exact ⟨v, hrow l v src h1, ⟨us, hrow vl _ _ h0, h2.1⟩, h2.2.1⟩
    | box ty cs b arr ds s h0 hd h1 h2 h3 h4 =>
      obtain ⟨v', hv', hok'⟩ := m.hps l _ _ h2
      rw [h1] at hv'; cases hv'
      obtain ⟨b', arr', hb', _, _, _, hlo⟩ := hok'
      injection hb' with hb'; injection hb' with hb'; injection hb' with hb'
      subst hb'
      exact ⟨_, by rw [hold l hd]; exact h1, b, arr, rfl, h3, (h4 _ hrow).mono (Lab.le_refl _) ev, fun h => (by cases h), hlo⟩
  · intro l l' he he' s s' v v' k h1 h1' h2 h2' h3 h3'
    obtain ⟨q, he2, s2, g1, g2, g3, gt⟩ := hsource h1 h2 h3
    obtain ⟨q', he2', s2', g1', g2', g3', gt'⟩ := hsource h1' h2' h3'
    have hqq := m.dis q q' he2 he2' s2 s2' v v' k g1 g1' g2 g2' g3 g3'
    subst hqq
    rcases gt with ⟨rfl, hk1, _⟩ | ⟨hm, hr1, hk1⟩ | ⟨rfl, hk1, ty, cs, rfl⟩ <;> rcases gt' with ⟨hq', hk2, _⟩ | ⟨hm', hr2, hk2⟩ | ⟨hq', hk2, ty', cs', rfl⟩
    · exact hq'
    · rw [hk1] at hk2; cases hk2
    · exact hq'
    · subst hq'; rw [hk1] at hk2; cases hk2
    · exact srcOK_inj hsrc hm hm'
    · rw [g1] at g1'; cases g1'; cases hr1
    · exact hq'
    · rw [g1] at g1'; cases g1'; cases hr2
    · exact hq'
  · intro l he s v k h1 h2 h3
    obtain ⟨q, he2, s2, g1, g2, g3, gt⟩ := hsource h1 h2 h3
    have hnb := m.nb q he2 s2 v k g1 g2 g3
    refine ⟨fun hl => hnb.1 ?_, hnb.2⟩
    rcases gt with ⟨_, _, hh⟩ | ⟨_, hr, _⟩ | ⟨_, _, _, _, rfl⟩
    · rw [← hh]; exact hl
    · cases he2 <;> first | rfl | cases hr
    · rfl
  · intro l v h
    show memL l (its.labs ++ st0.dom) = true
    rw [memL_append]
    unfold Lab.atHead at h
    cases hq : lookL L l with
    | some q => rw [rep_labs hrep (lookL_mem hq)]; rfl
    | none =>
      rw [hq] at h
      cases hd : memL l st0.dom with
      | true => simp
      | false => rw [hd] at h; cases h
  · intro l he s h
    show s ≤ st0.cnt + 1
    cases hhead h with
    | old he s h1 h2 => have := (hA.uhp l he s (base_some h2)).2.2; omega
    | row => exact Nat.le_refl _
    | mat => exact Nat.le_refl _
    | box => exact Nat.le_refl _
end
end Go.GX
set_option linter.unusedVariables false
namespace Go.GX
variable [Inhabited BaseD]
open Go.RowKit Go.Shelf Go.Proofs

section
variable {S : Stat} {st : St} {lab : Nat} {o : Oper} {Q : Eff}

abbrev Only (sv : SV) (u : List (Nat × Option HE)) : Eff := fun a b => a = sv ∧ b = u

def Def1 (f : Eff → Prop) : Prop := ∀ Q : Eff, f Q → ∃ sv u, Q sv u ∧ f (Only sv u)

theorem Def1.res (sv : SV) (u : List (Nat × Option HE)) : Def1 fun Q => Q sv u := fun Q h => ⟨sv, u, h, rfl, rfl⟩
theorem Def1.no : Def1 fun Q => False := fun Q h => h.elim
theorem Def1.and {p : Prop} {f : Eff → Prop} (h : Def1 f) : Def1 fun Q => p ∧ f Q := fun Q ⟨hp, hf⟩ => let ⟨sv, u, h1, h2⟩ := h Q hf; ⟨sv, u, h1, hp, h2⟩
theorem Def1.chk {b : Bool} {f : Eff → Prop} (h : Def1 f) : Def1 fun Q => GX.chk b (f Q) := by
  cases b with
  | false => exact Def1.no
  | true => exact h
theorem Def1.cnd {b : Bool} {f g : Eff → Prop} (h : Def1 f) (k : Def1 g) : Def1 fun Q => GX.cnd b (f Q) (g Q) := by
  cases b with
  | false => exact k
  | true => exact h
theorem Def1.dite {p : Prop} [Decidable p] {f : p → Eff → Prop} (h : ∀ hp, Def1 (f hp)) : Def1 fun Q => if hp : p then f hp Q else False := by
  by_cases hp : p
  · simp only [hp, dite_true]; exact h hp
  · simp only [hp, dite_false]; exact Def1.no
theorem Def1.optK {α : Type} {x : Option α} {f : α → Eff → Prop} (h : ∀ a, Def1 (f a)) : Def1 fun Q => GX.optK x fun a => f a Q := by
  cases x with
  | none => exact Def1.no
  | some a => exact h a
theorem Def1.oneC {v : SV} {f : SC → Eff → Prop} (h : ∀ c, Def1 (f c)) : Def1 fun Q => GX.oneC v fun c => f c Q := by
  unfold GX.oneC
  split
  · exact h _
  · exact Def1.no
theorem Def1.aggC {v w : SV} {f : List SC → List SC → Eff → Prop} {g : Eff → Prop} (h : ∀ cs ds, Def1 (f cs ds)) (k : Def1 g) : Def1 fun Q => GX.aggC v w (fun cs ds => f cs ds Q) (g Q) := by
  unfold GX.aggC
  split
  · exact h _ _
  · exact k
theorem Def1.mkOr {x : Option (TypeId × FuncId)} {f : TypeId × FuncId → Eff → Prop} {g : Eff → Prop} (h : ∀ a, Def1 (f a)) (k : Def1 g) : Def1 fun Q => GX.mkOr x (fun a => f a Q) (g Q) := by
  cases x with
  | none => exact k
  | some a => exact h a
theorem Def1.oneB {v : SV} {f : Bool → Eff → Prop} (h : ∀ c, Def1 (f c)) : Def1 fun Q => GX.oneB v fun c => f c Q := by
  unfold GX.oneB
  split
  · exact h _
  · exact Def1.no
theorem Def1.oneI {v : SV} {f : Int → Eff → Prop} (h : ∀ c, Def1 (f c)) : Def1 fun Q => GX.oneI v fun c => f c Q := by
  unfold GX.oneI
  split
  · exact h _
  · exact Def1.no
theorem Def1.keyS {t : TypeId} {x k : Operand} {f : List memoK.T → memoKeyK.T → Eff → Prop} (h : ∀ xs key, Def1 (f xs key)) : Def1 fun Q => GX.keyS S st t x k fun xs key => f xs key Q := by
  unfold GX.keyS
  refine Def1.oneC fun c => ?_
  split
  · refine Def1.dite fun hK => ?_
    split
    · exact Def1.optK fun p => Def1.chk (h _ _)
    · exact Def1.no
  · exact Def1.no
theorem Def1.oneIK {v : SV} {f : IntKind → Int → Eff → Prop} (h : ∀ k c, Def1 (f k c)) : Def1 fun Q => GX.oneIK v fun k c => f k c Q := by
  unfold GX.oneIK
  split
  · exact h _ _
  · exact Def1.no
theorem Def1.cellsOf {v : SV} {f : List SC → Eff → Prop} (h : ∀ c, Def1 (f c)) : Def1 fun Q => GX.cellsOf v fun c => f c Q := by
  unfold GX.cellsOf
  split
  · exact h _
  · exact Def1.no
theorem Def1.optI {x : Option Operand} {d : Int} {f : Int → Eff → Prop} (h : ∀ c, Def1 (f c)) : Def1 fun Q => GX.optI S st x d fun c => f c Q := by
  cases x with
  | none => exact h _
  | some a => exact Def1.oneI h
theorem Def1.giv {α : Type} {g : (α → Prop) → Prop} {f : α → Eff → Prop} (h : ∀ c, Def1 (f c)) : Def1 fun Q => GX.giv true g fun c => f c Q := by
  rintro Q ⟨r, h1, h2⟩
  obtain ⟨sv, u, h3, h4⟩ := h r Q h2
  exact ⟨sv, u, h3, r, h1, h4⟩
theorem Def1.partsS {t : TypeId} {n : Nat} : ∀ (ps : List (Nat × Operand)) {f : List (Nat × List SC) → Eff → Prop}, (∀ c, Def1 (f c)) → Def1 fun Q => GX.partsS S st t n ps fun c => f c Q
  | [], f, h => h []
  | (i, x) :: r, f, h => Def1.optK fun a => Def1.optK fun b => Def1.cellsOf fun c => Def1.chk (Def1.partsS r fun d => h _)
theorem Def1.partsA {e : TypeId} {sz n : Nat} : ∀ (ps : List (Nat × Operand)) {f : List (Nat × List SC) → Eff → Prop}, (∀ c, Def1 (f c)) → Def1 fun Q => GX.partsA S st e sz n ps fun c => f c Q
  | [], f, h => h []
  | (i, x) :: r, f, h => Def1.cellsOf fun c => Def1.chk (Def1.partsA r fun d => h _)
theorem Def1.idxC {j : Int} {f : Nat → Eff → Prop} (h : ∀ k, Def1 (f k)) : ∀ m k, Def1 fun Q => GX.idxC j (fun k => f k Q) k m
  | 0, _ => Def1.no
  | m + 1, k => Def1.cnd (h k) (Def1.idxC h m (k + 1))
theorem Def1.idxArr {ix : Operand} {n : Nat} {f : Nat → Eff → Prop} (h : ∀ k, Def1 (f k)) : Def1 fun Q => GX.idxArr S st ix n fun k => f k Q := by
  unfold GX.idxArr
  split
  · exact Def1.chk (h _)
  · exact Def1.oneI fun j => Def1.and (Def1.and (Def1.idxC h _ _))
theorem Def1.elemsS {t : TypeId} {n : Nat} : ∀ (ps : List (Nat × Operand)) (i : Nat) {f : List SC → Eff → Prop}, (∀ c, Def1 (f c)) → Def1 fun Q => GX.elemsS S st t n i ps fun c => f c Q
  | [], i, f, h => h []
  | (j, x) :: r, i, f, h => Def1.chk (Def1.cellsOf fun c => Def1.chk (Def1.elemsS r (i + 1) fun d => h _))

theorem Def1.bcond {b : Bool} {f g : Eff → Prop} (h : Def1 f) (k : Def1 g) : Def1 fun Q => cond b (f Q) (g Q) := by
  cases b
  · exact k
  · exact h

theorem Def1.orK {α : Type} {o : Option α} {f : α → Eff → Prop} {p : Eff → Prop} (h : ∀ x, Def1 (f x)) (hp : Def1 p) : Def1 fun Q => GX.orK o (fun x => f x Q) (p Q) := by
  cases o with
  | none => exact hp
  | some x => exact h x
theorem Def1.ioS {c : CtW} {cs : List Cap} {args : List Operand} {ts : List TypeId} : Def1 fun Q => GX.ioS S true st c cs args ts Q := by
  unfold GX.ioS
  split
  · refine Def1.oneC fun d => ?_
    split
    · split
      · exact Def1.chk (Def1.dite fun h => Def1.optK fun p => Def1.optK fun q => Def1.chk (Def1.giv fun r => Def1.res _ _))
      · exact Def1.no
    · exact Def1.no
  · exact Def1.no
theorem Def1.hovS {lab : Nat} {c : CtH} {cs : List Cap} {args : List Operand} {ts : List TypeId} : Def1 fun Q => GX.hovS S true st lab c cs args ts Q := by
  unfold GX.hovS
  split
  · refine Def1.oneC fun d => ?_
    split
    · split
      · exact Def1.chk (Def1.dite fun h => Def1.optK fun p => Def1.optK fun q => Def1.chk (Def1.giv fun r => Def1.res _ _))
      · exact Def1.no
    · exact Def1.chk (Def1.optK fun p => Def1.optK fun q => Def1.giv fun r => Def1.res _ _)
    · exact Def1.no
  · exact Def1.no
theorem Def1.idxPt {ix : Operand} {n sz : Nat} {c : SC} {f : SC → Eff → Prop} {p : Eff → Prop} (h : ∀ c, Def1 (f c)) (hp : Def1 p) : Def1 fun Q => GX.idxPt S st ix n sz c (fun c => f c Q) (p Q) := by
  unfold GX.idxPt
  split
  · split
    · exact Def1.bcond (Def1.oneI fun j => Def1.and (Def1.and (h _))) hp
    · exact hp
  · exact hp
theorem Def1.idxV {ix : Operand} {n : Nat} {kd : Kd} {cs : List SC} {f : SC → Eff → Prop} {p : Eff → Prop} (h : ∀ c, Def1 (f c)) (hp : Def1 p) : Def1 fun Q => GX.idxV S st ix n kd cs (fun c => f c Q) (p Q) := by
  unfold GX.idxV
  exact Def1.bcond (Def1.oneI fun j => Def1.and (Def1.and (Def1.optK fun c => h c))) hp

theorem Def1.isNil {look : Nat → Option HE} {c : SC} {f : Bool → Eff → Prop} (h : ∀ c, Def1 (f c)) : Def1 fun Q => GX.isNil true look c fun r => f r Q := by
  have row : ∀ (nn : Bool) (p : Bool → Prop), Def1 fun Q => _root_.cond nn (f false Q) (GX.chk (!true) (∀ b : Bool, p b → f b Q)) := by
    intro nn p
    cases nn with
    | true => exact h false
    | false => exact Def1.no
  cases c with
  | d K x =>
    cases K with
    | sl e K => exact Def1.no
    | nsl e K => exact h _
    | _ => exact Def1.no
  | nl e K => exact h _
  | own l =>
    simp only [GX.isNil]
    split
    · exact row _ _
    · exact row _ _
    · exact Def1.bcond (h _) Def1.no
    · exact Def1.no
  | _ => exact Def1.no

theorem Def1.isMat {look : Nat → Option HE} {b : SC} {f : (m : Nat) → (nn : Bool) → (ag : Bool) → (e1 : TypeId) → (K1 : Kd) → List (List K1.T) → Eff → Prop} {g : Eff → Prop} (h : ∀ m nn ag e1 K1 ys, Def1 (f m nn ag e1 K1 ys)) (k : Def1 g) : Def1 fun Q => GX.isMat look b (fun m nn ag e1 K1 ys => f m nn ag e1 K1 ys Q) (g Q) := by
  unfold GX.isMat
  split
  · split
    · exact h _ _ _ _ _ _
    · exact k
  · exact k

theorem Def1.litS {look : Nat → Option HE} {lab : Nat} {e : TypeId} {i : TI} {cs : List SC} {n : Nat} : Def1 fun Q => GX.litS S look lab e i cs n Q := by
  unfold GX.litS GX.litR
  refine Def1.bcond (Def1.optK fun p => Def1.chk (Def1.res _ _)) ?_
  split
  · exact Def1.optK fun p => Def1.chk (Def1.res _ _)
  · exact Def1.optK fun p => Def1.chk (Def1.res _ _)
  · exact Def1.optK fun p => Def1.chk (Def1.res _ _)

theorem Def1.appM {look : Nat → Option HE} {lab : Nat} {e : TypeId} {i : TI} {a : SC} {m : Nat} {nn' ag : Bool} {e1 : TypeId} {K1 : Kd} {ys : List (List K1.T)} : Def1 fun Q => GX.appM look lab e i a m nn' ag e1 K1 ys Q := by
  unfold GX.appM
  split
  · exact Def1.and (Def1.and (Def1.res _ _))
  · split
    · exact Def1.chk (Def1.dite fun h => Def1.and (Def1.and (Def1.res _ _)))
    · exact Def1.no
  · exact Def1.no

theorem Def1.cmpI {op : BinOp} {x y : Int} {f : Bool → Eff → Prop} (h : ∀ c, Def1 (f c)) : Def1 fun Q => GX.cmpI op x y fun r => f r Q := by
  unfold GX.cmpI
  cases op <;> first | exact h _ | exact Def1.no

theorem sem_def (Q : Eff) (h : sem S true st lab o Q) : ∃ sv u, Q sv u ∧ sem S true st lab o (Only sv u) := by
  have key : Def1 fun Q => sem S true st lab o Q := by
    unfold sem
    cases hop : o.op with
    | move x => exact Def1.res _ _
    | assign x => exact Def1.res _ _
    | pick c x y => exact Def1.oneB fun t => Def1.cnd (Def1.res _ _) (Def1.res _ _)
    | alloc e => exact Def1.optK fun i => Def1.res _ _
    | box e x => exact Def1.optK fun i => Def1.cellsOf fun cs => Def1.chk (Def1.res _ _)
    | build t ps => exact Def1.optK fun i => Def1.mkOr (fun p => Def1.optK fun q => Def1.partsA _ fun c => Def1.chk (Def1.res _ _)) (Def1.partsS _ fun c => Def1.chk (Def1.res _ _))
    | buildSlice t n ps =>
      refine Def1.optK fun e => Def1.optK fun i => Def1.chk (Def1.elemsS _ _ fun cs => Def1.bcond Def1.litS ?_)
      cases n with
      | zero => exact Def1.bcond (Def1.res _ _) (Def1.res _ _)
      | succ n => unfold bslS; exact Def1.bcond (Def1.res _ _) (Def1.optK fun r => Def1.chk (Def1.res _ _))
    | load t x => exact Def1.optK fun i => Def1.oneC fun c => Def1.optK fun cs => Def1.chk (Def1.res _ _)
    | store t x y =>
      refine Def1.optK fun i => Def1.oneC fun c => Def1.cellsOf fun cs => Def1.chk ?_
      cases c with
      | ptr l off =>
        simp only
        split
        · exact Def1.chk (Def1.res _ _)
        · exact Def1.no
      | ep l j sz off =>
        simp only
        split
        · refine Def1.chk ?_
          split
          · exact Def1.chk (Def1.res _ _)
          · exact Def1.no
        · exact Def1.chk (Def1.optK fun p => Def1.chk (Def1.and (Def1.res _ _)))
        · exact Def1.no
      | iep l vl j q sz off =>
        simp only
        split
        · refine Def1.chk ?_
          split
          · exact Def1.chk (Def1.res _ _)
          · exact Def1.no
        · exact Def1.no
      | pt l off n j =>
        simp only
        split
        · exact Def1.chk (Def1.optK fun d => Def1.res _ _)
        · exact Def1.no
      | _ => exact Def1.no
    | nilCheck x =>
      refine Def1.oneC fun c => ?_
      split <;> first | exact Def1.res _ _ | exact Def1.no
    | convert t0 t x =>
      refine Def1.optK fun _ => Def1.optK fun i => Def1.oneI fun n => ?_
      unfold cvtS
      split
      · exact Def1.res _ _
      · exact Def1.no
    | binOp op t x y t' =>
      refine Def1.aggC (fun cs ds => ?_) (Def1.oneC fun c => Def1.oneC fun d => ?_)
      · unfold eqAgg
        refine Def1.optK fun n => Def1.chk (Def1.optK fun b => ?_)
        cases op <;> first | exact Def1.res _ _ | exact Def1.no
      unfold binS
      split
      · unfold shS
        split
        · exact Def1.and (Def1.res _ _)
        · exact Def1.and (Def1.res _ _)
        refine Def1.chk ?_
        unfold binI
        cases op <;> first | exact Def1.res _ _ | exact Def1.and (Def1.res _ _) | exact Def1.cmpI fun _ => Def1.res _ _
      · refine Def1.chk ?_
        unfold binB
        cases op <;> first | exact Def1.res _ _ | exact Def1.no
      · refine Def1.chk ?_
        cases op <;> first | exact Def1.no | exact Def1.isNil fun _ => Def1.res _ _
      · exact Def1.no
    | unOp op t x =>
      refine Def1.oneC fun c => ?_
      unfold unS
      split
      · exact Def1.res _ _
      · exact Def1.res _ _
      · exact Def1.no
    | makeFunc fn fi caps =>
      cases fn with
      | func f =>
        refine Def1.orK (fun it => ?_) (Def1.chk (Def1.optK fun cs => Def1.res _ _))
        split
        · exact Def1.optK fun q => Def1.chk (Def1.and (Def1.res _ _))
        · exact Def1.no
      | _ => exact Def1.no
    | lookup t x k ok => exact Def1.optK fun _ => Def1.chk (Def1.keyS fun xs key => Def1.giv fun r => Def1.res _ _)
    | mapUpdate t x k v => exact Def1.optK fun _ => Def1.keyS fun xs key => Def1.oneIK fun q n => Def1.chk (Def1.and (Def1.res _ _))
    | makeSlice t l c => exact Def1.optK fun e => Def1.optK fun i => Def1.chk (Def1.oneI fun n => Def1.oneI fun m => Def1.and (Def1.and (Def1.and (Def1.res _ _))))
    | slice t x lo hi mx =>
      refine Def1.mkOr (fun p => Def1.chk (Def1.optK fun i => Def1.chk (Def1.oneC fun c => ?_))) (Def1.optK fun e => Def1.optK fun i => Def1.oneC fun c => Def1.bcond ?_ (Def1.optK fun d => Def1.chk (Def1.optI fun l => Def1.optI fun u => Def1.and (Def1.and (Def1.and ?_)))))
      · split
        · exact Def1.optI fun l => Def1.optI fun u => Def1.and (Def1.and (Def1.and (Def1.res _ _)))
        · exact Def1.no
      · unfold subS
        split
        · split
          · exact Def1.chk (Def1.optI fun l => Def1.optI fun u => Def1.and (Def1.and (Def1.and (Def1.res _ _))))
          · exact Def1.no
        · exact Def1.no
      cases mx with
      | none => exact Def1.chk (Def1.res _ _)
      | some a => exact Def1.chk (Def1.oneI fun m => Def1.and (Def1.res _ _))
    | fieldAddr t x f => exact Def1.optK fun e => Def1.optK fun i => Def1.chk (Def1.oneC fun c => Def1.optK fun d => Def1.res _ _)
    | field t x f =>
      refine Def1.optK fun e => Def1.optK fun i => ?_
      split
      · exact Def1.chk (Def1.res _ _)
      · exact Def1.no
    | index t x ix =>
      refine Def1.orK (fun p => Def1.optK fun i => ?_) ?_
      · split
        · exact Def1.idxV (fun c => Def1.res _ _) (Def1.idxArr fun k => Def1.chk (Def1.res _ _))
        · exact Def1.no
      · refine Def1.optK fun i => Def1.chk (Def1.oneC fun c => ?_)
        split
        · exact Def1.oneI fun j => Def1.and (Def1.and (Def1.res _ _))
        · exact Def1.no
    | indexAddr t x ix =>
      refine Def1.mkOr (fun p => Def1.optK fun i => Def1.chk (Def1.oneC fun c => Def1.idxPt (fun c' => Def1.res _ _) (Def1.idxArr fun k => Def1.optK fun c' => Def1.res _ _))) (Def1.optK fun e => Def1.optK fun i => Def1.oneC fun c => Def1.oneI fun j => ?_)
      unfold idxS
      split
      · split
        · exact Def1.chk (Def1.and (Def1.and (Def1.res _ _)))
        · exact Def1.chk (Def1.and (Def1.and (Def1.res _ _)))
        · exact Def1.chk (Def1.and (Def1.and (Def1.res _ _)))
        · exact Def1.chk (Def1.and (Def1.and (Def1.res _ _)))
        · exact Def1.no
      · split
        · exact Def1.chk (Def1.and (Def1.and (Def1.res _ _)))
        · exact Def1.no
      · exact Def1.no
      · exact Def1.optK fun d => Def1.chk (Def1.and (Def1.and (Def1.res _ _)))
    | extract t ix =>
      simp only
      split
      · split
        · exact Def1.res _ _
        · exact Def1.no
      · exact Def1.no
    | call c =>
      simp only
      split
      · split
        · exact Def1.optK fun _ => Def1.oneC fun a => Def1.optK fun d => Def1.res _ _
        · exact Def1.no
      · split
        · refine Def1.optK fun e => Def1.optK fun i => Def1.oneC fun d => ?_
          unfold clearS
          split
          · split
            · exact Def1.chk (Def1.res _ _)
            · exact Def1.no
          · exact Def1.no
        · exact Def1.no
      · split
        · exact Def1.oneIK fun q a => Def1.oneI fun b => Def1.res _ _
        · exact Def1.no
      · split
        · exact Def1.oneIK fun q a => Def1.oneI fun b => Def1.res _ _
        · exact Def1.no
      · split
        · refine Def1.optK fun e => Def1.optK fun i => Def1.oneC fun d => Def1.oneC fun s => ?_
          unfold copyS copyTo
          split
          · split
            · refine Def1.optK fun ys => ?_
              split
              · exact Def1.chk (Def1.dite fun h => Def1.res _ _)
              · exact Def1.no
            · exact Def1.no
          · split
            · refine Def1.chk (Def1.optK fun ys => ?_)
              split
              · exact Def1.chk (Def1.dite fun h => Def1.res _ _)
              · exact Def1.no
            · exact Def1.no
          · exact Def1.no
        · exact Def1.no
      · split
        · refine Def1.chk (Def1.optK fun e => Def1.optK fun i => Def1.oneC fun a => Def1.oneC fun b => Def1.isMat (fun m nn ag e1 K1 ys => Def1.chk Def1.appM) (Def1.optK fun d => Def1.chk (Def1.dite fun h => ?_)))
          unfold appS
          split
          · exact Def1.and (Def1.res _ _)
          · split
            · exact Def1.chk (Def1.dite fun h' => Def1.and (Def1.res _ _))
            · exact Def1.no
          · exact Def1.dite fun h' => Def1.and (Def1.and (Def1.res _ _))
          · split
            · exact Def1.chk (Def1.dite fun h' => Def1.and (Def1.res _ _))
            · exact Def1.no
          · exact Def1.no
        · exact Def1.no
      · refine Def1.oneC fun g => ?_
        split
        · refine Def1.bcond ?_ (Def1.bcond ?_ (Def1.mkOr (fun p => ?_) (Def1.orK (fun w => Def1.ioS) (Def1.orK (fun w => Def1.hovS) (Def1.optK fun ct => Def1.optK fun p => Def1.optK fun q => ?_)))))
          · unfold clipS
            split
            · exact Def1.oneC fun c => Def1.optK fun d => Def1.chk (Def1.res _ _)
            · exact Def1.no
          · unfold inlS
            split
            · exact Def1.oneC fun c => Def1.res _ _
            · exact Def1.no
          · unfold mkS
            split
            · exact Def1.cellsOf fun ds => Def1.res _ _
            · exact Def1.no
          · unfold callS
            cases ct.own with
            | true => exact Def1.chk (Def1.giv fun r => Def1.res _ _)
            | false =>
            cases ct.fresh with
            | true => exact Def1.giv fun r => Def1.res _ _
            | false => exact Def1.chk (Def1.giv fun r => Def1.res _ _)
        · exact Def1.optK fun p => Def1.chk (Def1.giv fun r => Def1.res _ _)
        · exact Def1.no
      · exact Def1.no
    | _ => exact Def1.no
  exact key Q h
end
end Go.GX
set_option linter.unusedVariables false
namespace Go.GX
variable [Inhabited BaseD]
open Go.RowKit Go.Shelf Go.Proofs

theorem ev_dom (S : Stat) (st : St) (d : List Nat) (t : TypeId) (x : Operand) : ev S { st with dom := d } t x = ev S st t x := by cases x <;> rfl

theorem partsS_dom (S : Stat) (st : St) (d : List Nat) (t : TypeId) (n : Nat) : ∀ (ps : List (Nat × Operand)) (k : List (Nat × List SC) → Prop), partsS S { st with dom := d } t n ps k = partsS S st t n ps k
  | [], k => rfl
  | (i, x) :: r, k => by simp only [partsS, ev_dom, partsS_dom S st d t n r]

theorem partsA_dom (S : Stat) (st : St) (d : List Nat) (e : TypeId) (sz n : Nat) : ∀ (ps : List (Nat × Operand)) (k : List (Nat × List SC) → Prop), partsA S { st with dom := d } e sz n ps k = partsA S st e sz n ps k
  | [], k => rfl
  | (i, x) :: r, k => by simp only [partsA, ev_dom, partsA_dom S st d e sz n r]

theorem elemsS_dom (S : Stat) (st : St) (d : List Nat) (e : TypeId) (n : Nat) : ∀ (ps : List (Nat × Operand)) (i : Nat) (k : List SC → Prop), elemsS S { st with dom := d } e n i ps k = elemsS S st e n i ps k
  | [], i, k => rfl
  | (j, x) :: r, i, k => by simp only [elemsS, ev_dom, elemsS_dom S st d e n r]

theorem sem_dom (S : Stat) (dr : Bool) (st : St) (d : List Nat) (lab : Nat) (o : Oper) (Q : Eff) : sem S dr { st with dom := d } lab o Q = sem S dr st lab o Q := by
  unfold sem
  cases o.op <;> try rfl
  case build t ps => simp only [partsS_dom, partsA_dom]
  case buildSlice t n ps =>
    simp only [elemsS_dom]
    rfl
  case makeFunc fn fi caps =>
    have hev : ev S { st with dom := d } 0 = ev S st 0 := funext fun x => ev_dom S st d 0 x
    cases fn with
    | func f => simp only [itmS]; rw [hev]; rfl
    | _ => rfl

theorem noLnU_spec {l : Nat} {h : HE} : ∀ {u : List (Nat × Option HE)}, noLnU u = true → lastU u l = some (some h) → h.isLn = false
  | (k, x) :: r, hn, hl => by
    simp only [noLnU, Bool.and_eq_true] at hn
    simp only [lastU] at hl
    cases hr : lastU r l with
    | some y =>
      rw [hr] at hl
      cases hl
      exact noLnU_spec hn.2 hr
    | none =>
      rw [hr] at hl
      cases hb : Nat.beq l k with
      | false => rw [hb] at hl; cases hl
      | true =>
        rw [hb] at hl
        cases hl
        have h1 := hn.1
        cases h <;> first | rfl | cases h1

theorem look_hp {st : St} {l : Nat} {h : HE} : st.look l = some h ↔ ∃ s, st.hp l = some (h, s) := by
  constructor
  · exact look_some
  · rintro ⟨s, hs⟩; simp [St.look, hs]

section
variable {P : Program} {glb : Nat → Option GV} {Bk X0 : Nat → Prop} {w0 : World} {st st' : St} {ρ ρ' : Lab} {a : Act} {W W' : World} {S : Stat} {lab : Nat} {o : Oper} {Q : Eff}

theorem xs_look {k : Nat} : Xs st ρ X0 k ↔ X0 k ∨ ∃ l he v, st.look l = some he ∧ ρ l = some v ∧ OwnB ρ he v k := by
  constructor
  · rintro (h | ⟨l, he, s, v, h1, h2, h3⟩)
    · exact .inl h
    · exact .inr ⟨l, he, v, look_hp.2 ⟨s, h1⟩, h2, h3⟩
  · rintro (h | ⟨l, he, v, h1, h2, h3⟩)
    · exact .inl h
    · obtain ⟨s, hs⟩ := look_hp.1 h1
      exact .inr ⟨l, he, s, v, hs, h2, h3⟩

theorem Mt.same (m : Mt P glb Bk X0 w0 st ρ a W) (hn : st'.n = st.n) (htm : ∀ t, st'.tm t = st.tm t) (hl : ∀ l, st'.look l = st.look l) (hd : ∀ l v, ρ l = some v → memL l st'.dom = true) (hs : ∀ l he s, st'.hp l = some (he, s) → s ≤ st'.cnt) : Mt P glb Bk X0 w0 st' ρ a W := by
  have hX : Xs st' ρ X0 = Xs st ρ X0 := by
    funext k
    apply propext
    rw [xs_look, xs_look]
    simp only [hl]
  have back : ∀ {l he s}, st'.hp l = some (he, s) → ∃ s', st.hp l = some (he, s') := by
    intro l he s h
    have := look_hp.2 ⟨s, h⟩
    rw [hl] at this
    exact look_hp.1 this
  refine ⟨by rw [hn]; exact m.size, m.dfr, fun t => by rw [hX, htm]; exact m.tms t, fun l he s h => ?_, fun l l' he he' s s' v v' k h h' => ?_, m.x0, m.bk, m.bel, fun l he s v k h => ?_, by rw [hX]; exact m.glb, hd, hs⟩
  · obtain ⟨s', h'⟩ := back h
    rw [hX]; exact m.hps l he s' h'
  · obtain ⟨s1, h1⟩ := back h
    obtain ⟨s2, h2⟩ := back h'
    exact m.dis l l' he he' s1 s2 v v' k h1 h2
  · obtain ⟨s1, h1⟩ := back h
    exact m.nb l he s1 v k h1

def OwnIn (st : St) (ρ : Lab) (mem : List Nat) (k : Nat) : Prop := ∃ l he v, memL l mem = true ∧ st.look l = some he ∧ ρ l = some v ∧ OwnB ρ he v k

theorem mask_hp {rd mem dom : List Nat} {l : Nat} {he : HE} {s : Nat} (h : (st.mask rd mem dom).hp l = some (he, s)) : memL l mem = true ∧ st.look l = some he ∧ s = 0 := by
  simp only [St.mask] at h
  cases hm : memL l mem with
  | false => rw [hm] at h; cases h
  | true =>
    rw [hm, cond_true] at h
    cases hl : st.look l with
    | none => rw [hl] at h; cases h
    | some x => rw [hl] at h; cases h; exact ⟨rfl, rfl, rfl⟩

theorem mask_look {rd mem dom : List Nat} {l : Nat} : (st.mask rd mem dom).look l = cond (memL l mem) (st.look l) none := by
  simp only [St.mask, St.look]
  cases memL l mem with
  | false => rfl
  | true =>
    simp only [cond_true]
    cases st.hp l <;> rfl

def OwnW (st : St) (ρ : Lab) (mem : List Nat) (k : Nat) : Prop := ∃ l he v, memL l mem = true ∧ st.look l = some he ∧ ρ l = some v ∧ OwnB ρ he v k ∧ he.isLn = false

theorem OwnW.own {ρ : Lab} {mem : List Nat} {k : Nat} (h : OwnW st ρ mem k) : OwnIn st ρ mem k :=
  let ⟨l, he, v, h1, h2, h3, h4, _⟩ := h; ⟨l, he, v, h1, h2, h3, h4⟩

def bkOf (st : St) (ρ : Lab) (mem : List Nat) (W : World) (k : Nat) : Prop := k < W.heap.size ∧ ¬ OwnW st ρ mem k
def xOf (st : St) (ρ : Lab) (X0 : Nat → Prop) (mem : List Nat) (W : World) (k : Nat) : Prop := Xs st ρ X0 k ∧ k < W.heap.size ∧ ¬ OwnIn st ρ mem k

theorem Mt.part (m : Mt P glb Bk X0 w0 st ρ a W) (rd mem : List Nat) : Mt P glb (bkOf st ρ mem W) (xOf st ρ X0 mem W) W (st.mask rd mem st.dom) ρ { a with defers := [] } W := by
  have hsub : ∀ k, Xs (st.mask rd mem st.dom) ρ (xOf st ρ X0 mem W) k → Xs st ρ X0 k := by
    rintro k (h | ⟨l, he, s, v, h1, h2, h3⟩)
    · exact h.1
    · obtain ⟨_, hl, _⟩ := mask_hp h1
      exact xs_look.2 (.inr ⟨l, he, v, hl, h2, h3⟩)
  have ev : Evo (Xs st ρ X0) W (Xs (st.mask rd mem st.dom) ρ (xOf st ρ X0 mem W)) W := Evo.mono (fun k hk => m.Xlt k (hsub k hk)) hsub
  refine ⟨m.size, DefOK.nil, fun t => ?_, fun l he s h => ?_, fun l l' he he' s s' v v' k h h' => ?_, fun k hk => hk.2.1, fun k hk => hk.1, .refl _ _, fun l he s v k h h2 h3 => ?_, ?_, m.dom, fun l he s h => ?_⟩
  · simp only [St.mask]
    cases memL t rd with
    | false => trivial
    | true => exact (m.tms t).mono ρ.le_refl ev
  · obtain ⟨_, hl, _⟩ := mask_hp h
    obtain ⟨s', hs'⟩ := look_hp.1 hl
    obtain ⟨v, hv, hok⟩ := m.hps l he s' hs'
    exact ⟨v, hv, hok.mono ρ.le_refl ev (fun _ _ => rfl)⟩
  · obtain ⟨_, hl, _⟩ := mask_hp h
    obtain ⟨_, hl', _⟩ := mask_hp h'
    obtain ⟨s1, hs1⟩ := look_hp.1 hl
    obtain ⟨s2, hs2⟩ := look_hp.1 hl'
    exact m.dis l l' he he' s1 s2 v v' k hs1 hs2
  · obtain ⟨hm, hl, _⟩ := mask_hp h
    have ho : OwnIn st ρ mem k := ⟨l, he, v, hm, hl, h2, h3⟩
    exact ⟨fun hl2 hb => hb.2 ⟨l, he, v, hm, hl, h2, h3, hl2⟩, fun hx => hx.2.2 ho⟩
  · exact m.glb.evo ev
  · obtain ⟨_, _, hs⟩ := mask_hp h
    rw [hs]; exact Nat.zero_le _

theorem Mt.whole (m : Mt P glb Bk X0 w0 st ρ a W) (rd mem : List Nat) (u : List (Nat × Option HE)) (hu : ∀ l h, lastU u l = some (some h) → h.isLn = false) (hle : ρ.le ρ')
    (m' : Mt P glb (bkOf st ρ mem W) (xOf st ρ X0 mem W) W ((st.mask rd mem st.dom).upds u) ρ' { a with defers := [] } W') :
    Mt P glb Bk X0 w0 (st.upds u) ρ' a W' ∧ (∀ k, Xs (st.upds u) ρ' X0 k → Xs ((st.mask rd mem st.dom).upds u) ρ' (xOf st ρ X0 mem W) k) := by
  have hρ : ∀ {l he}, st.look l = some he → ∀ {v}, ρ' l = some v → ρ l = some v := by
    intro l he h v hv
    obtain ⟨s, hs⟩ := look_hp.1 h
    obtain ⟨v', hv', _⟩ := m.hps l he s hs
    have := hle l v' hv'
    rw [hv] at this; cases this
    exact hv'
  have hρB : ∀ {l he}, st.look l = some he → ∀ {v k}, ρ' l = some v → OwnB ρ' he v k → OwnB ρ he v k := by
    intro l he h v k hv hk
    obtain ⟨s, hs⟩ := look_hp.1 h
    obtain ⟨v', hv', hok⟩ := m.hps l he s hs
    have := hρ h hv
    rw [hv'] at this; cases this
    exact hk.back hok hle

  have look : ∀ l, (st.upds u).look l = ((st.mask rd mem st.dom).upds u).look l ∨ (lastU u l = none ∧ memL l mem = false ∧ (st.upds u).look l = st.look l) := by
    intro l
    rw [upds_look, upds_look, mask_look]
    cases lastU u l with
    | some x => exact .inl rfl
    | none =>
      cases memL l mem with
      | true => exact .inl rfl
      | false => exact .inr ⟨rfl, rfl, rfl⟩
  have notIn : ∀ {l he v k}, memL l mem = false → st.look l = some he → ρ l = some v → OwnB ρ he v k → k < W.heap.size ∧ ¬ OwnIn st ρ mem k := by
    intro l he v k hm hl hv hk
    obtain ⟨s, hs⟩ := look_hp.1 hl
    refine ⟨m.Xlt k (xs_look.2 (.inr ⟨l, he, v, hl, hv, hk⟩)), ?_⟩
    rintro ⟨l2, he2, v2, hm2, hl2, hv2, hk2⟩
    obtain ⟨s2, hs2⟩ := look_hp.1 hl2
    have := m.dis l l2 he he2 s s2 v v2 k hs hs2 hv hv2 hk hk2
    subst this
    rw [hm] at hm2; cases hm2
  have ownX : ∀ {k}, OwnIn st ρ mem k → Xs st ρ X0 k := by
    rintro k ⟨l, he, v, _, g1, g2, g3⟩
    exact xs_look.2 (.inr ⟨l, he, v, g1, g2, g3⟩)
  have bk0 : ∀ {k}, Bk k → bkOf st ρ mem W k := by
    intro k hk
    refine ⟨Nat.lt_of_lt_of_le (m.bk k hk) m.bel.size, ?_⟩
    rintro ⟨l, he, v, _, g1, g2, g3, g4⟩
    obtain ⟨s, hs⟩ := look_hp.1 g1
    exact (m.nb l he s v k hs g2 g3).1 g4 hk
  have sub : ∀ k, Xs (st.upds u) ρ' X0 k → Xs ((st.mask rd mem st.dom).upds u) ρ' (xOf st ρ X0 mem W) k := by
    intro k hk
    rcases xs_look.1 hk with h | ⟨l, he, v, h1, h2, h3⟩
    · refine .inl ⟨.inl h, m.x0 k h, ?_⟩
      rintro ⟨l, he, v, _, g1, g2, g3⟩
      obtain ⟨s, hs⟩ := look_hp.1 g1
      exact (m.nb l he s v k hs g2 g3).2 h
    · rcases look l with hl | ⟨_, hm, hl⟩
      · rw [hl] at h1
        exact xs_look.2 (.inr ⟨l, he, v, h1, h2, h3⟩)
      · rw [hl] at h1
        have hv := hρ h1 h2
        have h3 := hρB h1 h2 h3
        exact .inl ⟨xs_look.2 (.inr ⟨l, he, v, h1, hv, h3⟩), notIn hm h1 hv h3⟩
  have hsz : W.heap.size ≤ W'.heap.size := m'.bel.size
  have ev : Evo (Xs st ρ X0) W (Xs (st.upds u) ρ' X0) W' := by
    refine ⟨hsz, fun k hk hx => m'.bel.block k ⟨(let ⟨_, _, _, h⟩ := hk; (Array.getElem?_eq_some_iff.1 h).1), fun ho => hx (ownX ho.own)⟩ (noMap_cells hk), fun k hk hlt => ?_, fun k hk => m'.Xlt k (sub k hk), fun mm xs hp hg => m'.bel.memo mm xs (hp.mono fun k hx hk hn => hn ⟨cells_lt hk, fun ho => hx (ownX ho.own)⟩) hg⟩
    rcases xs_look.1 (sub k hk) with h | ⟨l, he, v, h1, h2, h3⟩
    · exact h.1
    · obtain ⟨s, hs⟩ := look_hp.1 h1
      have hnb := m'.nb l he s v k hs h2 h3
      cases hl2 : he.isLn with
      | false => exact Classical.byContradiction fun hn => hnb.1 hl2 ⟨hlt, fun ho => hn (ownX ho.own)⟩
      | true =>
        rw [upds_look] at h1
        cases hq : lastU u l with
        | some x =>
          rw [hq] at h1
          subst h1
          rw [hu l he hq] at hl2; cases hl2
        | none =>
          rw [hq, mask_look] at h1
          cases hm : memL l mem with
          | false => rw [hm] at h1; cases h1
          | true =>
            rw [hm] at h1
            have h1 : st.look l = some he := h1
            exact ownX ⟨l, he, v, hm, h1, hρ h1 h2, hρB h1 h2 h3⟩
  have ev' : Evo (Xs ((st.mask rd mem st.dom).upds u) ρ' (xOf st ρ X0 mem W)) W' (Xs (st.upds u) ρ' X0) W' := Evo.mono (fun k hk => m'.Xlt k (sub k hk)) sub
  refine ⟨⟨by rw [upds_n]; exact m.size, m.dfr.keep (fun D hD => m'.bel.block D ⟨(Array.getElem?_eq_some_iff.1 hD).1, ?_⟩ (fun _ es c h => (by rw [hD] at h; cases h))), fun t => ?_, fun l he s h => ?_, fun l l' he he' s s' v v' k h h' h2 h2' h3 h3' => ?_, fun k hk => Nat.lt_of_lt_of_le (m.x0 k hk) hsz, m.bk, ?_, fun l he s v k h h2 h3 => ?_, m.glb.evo ev, fun l v hv => ?_, ?_⟩, sub⟩
  · rintro ⟨l, he, v, _, g1, g2, g3, _⟩
    obtain ⟨s, hs⟩ := look_hp.1 g1
    obtain ⟨v2, hv2, hok⟩ := m.hps l he s hs
    rw [g2] at hv2; injection hv2 with hv2; subst hv2
    obtain ⟨cs, t, fr, hc⟩ := hok.cells g3
    rw [hD] at hc; cases hc
  · rw [upds_tm]; exact (m.tms t).mono hle ev
  · have hlk := look_hp.2 ⟨s, h⟩
    rcases look l with hl | ⟨_, hm, hl⟩
    · rw [hl] at hlk
      obtain ⟨s', hs'⟩ := look_hp.1 hlk
      obtain ⟨v, hv, hok⟩ := m'.hps l he s' hs'
      exact ⟨v, hv, hok.mono ρ'.le_refl ev' (fun _ _ => rfl)⟩
    · rw [hl] at hlk
      obtain ⟨s', hs'⟩ := look_hp.1 hlk
      obtain ⟨v, hv, hok⟩ := m.hps l he s' hs'
      exact ⟨v, hle l v hv, hok.mono hle ev (fun k hk => m'.bel.block k ⟨(notIn hm hlk hv hk).1, fun ho => (notIn hm hlk hv hk).2 ho.own⟩ (noMap_cells (hok.cells hk)))⟩
  · have hlk := look_hp.2 ⟨s, h⟩
    have hlk' := look_hp.2 ⟨s', h'⟩
    rcases look l with hl | ⟨_, hm, hl⟩ <;> rcases look l' with hl' | ⟨_, hm', hl'⟩ <;> rw [hl] at hlk <;> rw [hl'] at hlk'
    · obtain ⟨s1, hs1⟩ := look_hp.1 hlk
      obtain ⟨s2, hs2⟩ := look_hp.1 hlk'
      exact m'.dis l l' he he' s1 s2 v v' k hs1 hs2 h2 h2' h3 h3'
    · obtain ⟨s1, hs1⟩ := look_hp.1 hlk
      have h3' := hρB hlk' h2' h3'
      have hn := notIn hm' hlk' (hρ hlk' h2') h3'
      exact absurd (show xOf st ρ X0 mem W k from ⟨xs_look.2 (.inr ⟨l', he', v', hlk', hρ hlk' h2', h3'⟩), hn⟩) (m'.nb l he s1 v k hs1 h2 h3).2
    · obtain ⟨s2, hs2⟩ := look_hp.1 hlk'
      have h3 := hρB hlk h2 h3
      have hn := notIn hm hlk (hρ hlk h2) h3
      exact absurd (show xOf st ρ X0 mem W k from ⟨xs_look.2 (.inr ⟨l, he, v, hlk, hρ hlk h2, h3⟩), hn⟩) (m'.nb l' he' s2 v' k hs2 h2' h3').2
    · obtain ⟨s1, hs1⟩ := look_hp.1 hlk
      obtain ⟨s2, hs2⟩ := look_hp.1 hlk'
      exact m.dis l l' he he' s1 s2 v v' k hs1 hs2 (hρ hlk h2) (hρ hlk' h2') (hρB hlk h2 h3) (hρB hlk' h2' h3')
  · exact m.bel.trans (m'.bel.mono fun k hk => bk0 hk)
  · have hlk := look_hp.2 ⟨s, h⟩
    rcases look l with hl | ⟨_, hm, hl⟩ <;> rw [hl] at hlk
    · obtain ⟨s1, hs1⟩ := look_hp.1 hlk
      have h4 := m'.nb l he s1 v k hs1 h2 h3
      refine ⟨fun hl2 hb => h4.1 hl2 (bk0 hb), fun hx => h4.2 ⟨.inl hx, m.x0 k hx, ?_⟩⟩
      rintro ⟨l, he, v, _, g1, g2, g3⟩
      obtain ⟨s, hs⟩ := look_hp.1 g1
      exact (m.nb l he s v k hs g2 g3).2 hx
    · obtain ⟨s1, hs1⟩ := look_hp.1 hlk
      exact m.nb l he s1 v k hs1 (hρ hlk h2) (hρB hlk h2 h3)
  · have := m'.dom l v hv
    rw [upds_dom] at this ⊢
    exact this
  · exact upds_stamp u st m.stamp
end
end Go.GX
set_option linter.unusedVariables false
namespace Go.GX
variable [Inhabited BaseD]
open Go.RowKit Go.Shelf Go.Proofs

structure Ef where
  r : Rec
  sv : SV
  u : List (Nat × Option HE)

def Ef.app (e : Ef) (st : St) : St := (st.upds e.u).put e.r.wr e.sv
def allE (es : List Ef) (st : St) : St := es.foldl (fun st e => e.app st) st
def appD (D : Nat → Bool) : List Ef → Nat → St → St
  | [], _, st => st
  | e :: r, q, st => appD D r (q + 1) (cond (D q) (e.app st) st)

theorem app_tm (e : Ef) (st : St) (t : Nat) : (e.app st).tm t = match e.r.wr with
    | some d => cond (Nat.beq t d) e.sv (st.tm t)
    | none => st.tm t := by
  unfold Ef.app
  cases e.r.wr with
  | none => simp [St.put, upds_tm]
  | some d => simp [St.put, updf, upds_tm]

theorem put_look (st : St) (d : Option Nat) (sv : SV) (l : Nat) : (st.put d sv).look l = st.look l := by cases d <;> rfl
theorem put_n (st : St) (d : Option Nat) (sv : SV) : (st.put d sv).n = st.n := by cases d <;> rfl
theorem put_dom (st : St) (d : Option Nat) (sv : SV) : (st.put d sv).dom = st.dom := by cases d <;> rfl
theorem put_hp (st : St) (d : Option Nat) (sv : SV) : (st.put d sv).hp = st.hp := by cases d <;> rfl
theorem put_cnt (st : St) (d : Option Nat) (sv : SV) : (st.put d sv).cnt = st.cnt := by cases d <;> rfl

theorem app_look (e : Ef) (st : St) (l : Nat) : (e.app st).look l = match lastU e.u l with
    | some x => x
    | none => st.look l := by
  unfold Ef.app
  rw [put_look, upds_look]
  cases lastU e.u l <;> rfl

theorem app_n (e : Ef) (st : St) : (e.app st).n = st.n := by unfold Ef.app; rw [put_n, upds_n]
theorem app_dom (e : Ef) (st : St) (l : Nat) : memL l (e.app st).dom = (memL l (e.u.map (·.1)) || memL l st.dom) := by unfold Ef.app; rw [put_dom, upds_dom]
theorem app_frm (e : Ef) (st : St) (wr : List Nat) (h : ∀ d, e.r.wr = some d → d ∈ wr) : Frm st (e.app st) wr := (upds_frm wr e.u st).trans (put_frm _ _ _ _ h)
theorem app_stamp (e : Ef) (st : St) (h : ∀ l he s, st.hp l = some (he, s) → s ≤ st.cnt) : ∀ l he s, (e.app st).hp l = some (he, s) → s ≤ (e.app st).cnt := by
  unfold Ef.app
  rw [put_hp, put_cnt]
  exact upds_stamp e.u st h

def EqOn (rd mem : List Nat) (st st' : St) : Prop := (∀ t, memL t rd = true → st.tm t = st'.tm t) ∧ ∀ l, memL l mem = true → st.look l = st'.look l
def NoTouch (e : Ef) (rd mem : List Nat) : Prop := (∀ d, e.r.wr = some d → memL d rd = false) ∧ ∀ l, memL l mem = true → memL l (e.u.map (·.1)) = false

theorem EqOn.app {rd mem : List Nat} {st st' : St} (h : EqOn rd mem st st') (e : Ef) : EqOn rd mem (e.app st) (e.app st') := by
  refine ⟨fun t ht => ?_, fun l hl => ?_⟩
  · rw [app_tm, app_tm, h.1 t ht]
  · rw [app_look, app_look, h.2 l hl]

theorem NoTouch.left {rd mem : List Nat} {st st' : St} {e : Ef} (hn : NoTouch e rd mem) (h : EqOn rd mem st st') : EqOn rd mem (e.app st) st' := by
  refine ⟨fun t ht => ?_, fun l hl => ?_⟩
  · rw [app_tm]
    cases hw : e.r.wr with
    | none => exact h.1 t ht
    | some d =>
      have : t ≠ d := by
        intro hh; subst hh
        rw [hn.1 t hw] at ht; cases ht
      simp only [beq_ne this, cond_false]
      exact h.1 t ht
  · rw [app_look, lastU_none (hn.2 l hl)]
    exact h.2 l hl

theorem EqOn.symm {rd mem : List Nat} {st st' : St} (h : EqOn rd mem st st') : EqOn rd mem st' st := ⟨fun t ht => (h.1 t ht).symm, fun l hl => (h.2 l hl).symm⟩

theorem part_eq (D : Nat → Bool) (rd mem : List Nat) (i : Nat) : ∀ (es : List Ef) (q : Nat) (st st' : St), EqOn rd mem st st' →
    (∀ k e, es[k]? = some e → q + k < i → D (q + k) = false → NoTouch e rd mem) → (∀ k e, es[k]? = some e → i ≤ q + k → D (q + k) = true → NoTouch e rd mem) →
    EqOn rd mem (appD D es q st) (allE (es.take (i - q)) st')
  | [], q, st, st', h, _, _ => by simpa [allE, appD] using h
  | e :: r, q, st, st', h, h1, h2 => by
    have h1' : ∀ k e, r[k]? = some e → q + 1 + k < i → D (q + 1 + k) = false → NoTouch e rd mem := fun k e he hk hd => h1 (k + 1) e (by simpa using he) (by omega) (by rw [show q + (k + 1) = q + 1 + k by omega]; exact hd)
    have h2' : ∀ k e, r[k]? = some e → i ≤ q + 1 + k → D (q + 1 + k) = true → NoTouch e rd mem := fun k e he hk hd => h2 (k + 1) e (by simpa using he) (by omega) (by rw [show q + (k + 1) = q + 1 + k by omega]; exact hd)
    by_cases hq : q < i
    · have : i - q = (i - (q + 1)) + 1 := by omega
      rw [this, List.take_succ_cons]
      simp only [appD, allE, List.foldl_cons]
      refine part_eq D rd mem i r (q + 1) _ _ ?_ h1' h2'
      cases hd : D q with
      | true => exact h.app e
      | false => exact (NoTouch.left (h1 0 e rfl (by omega) (by simpa using hd)) h.symm).symm
    · have hz : i - q = 0 := by omega
      rw [hz, List.take_zero]
      have := part_eq D rd mem i r (q + 1) (cond (D q) (e.app st) st) st' (by
        cases hd : D q with
        | true => exact NoTouch.left (h2 0 e rfl (by omega) (by simpa using hd)) h
        | false => exact h) h1' h2'
      have hz' : i - (q + 1) = 0 := by omega
      rw [hz', List.take_zero] at this
      exact this

def EqAll (st st' : St) : Prop := (∀ t, st.tm t = st'.tm t) ∧ ∀ l, st.look l = st'.look l
theorem EqAll.refl (st : St) : EqAll st st := ⟨fun _ => rfl, fun _ => rfl⟩
theorem EqAll.trans {a b c : St} (h : EqAll a b) (k : EqAll b c) : EqAll a c := ⟨fun t => (h.1 t).trans (k.1 t), fun l => (h.2 l).trans (k.2 l)⟩
theorem EqAll.app {st st' : St} (h : EqAll st st') (e : Ef) : EqAll (e.app st) (e.app st') := by
  refine ⟨fun t => ?_, fun l => ?_⟩
  · rw [app_tm, app_tm, h.1 t]
  · rw [app_look, app_look, h.2 l]

def Comm (e f : Ef) : Prop := (∀ d, e.r.wr = some d → f.r.wr ≠ some d) ∧ ∀ l, memL l (e.u.map (·.1)) = true → memL l (f.u.map (·.1)) = false

theorem Comm.swap {e f : Ef} (h : Comm e f) (st : St) : EqAll (e.app (f.app st)) (f.app (e.app st)) := by
  refine ⟨fun t => ?_, fun l => ?_⟩
  · rw [app_tm, app_tm, app_tm, app_tm]
    cases he : e.r.wr with
    | none => rfl
    | some d =>
      cases hf : f.r.wr with
      | none => rfl
      | some d' =>
        simp only
        by_cases h1 : t = d
        · subst h1
          have : t ≠ d' := by intro hh; subst hh; exact h.1 t he hf
          simp [beq_ne this]
        · rw [beq_ne h1]; rfl
  · rw [app_look, app_look, app_look, app_look]
    cases hm : memL l (e.u.map (·.1)) with
    | true =>
      obtain ⟨x, hx⟩ := lastU_some hm
      rw [hx, lastU_none (h.2 l hm)]
    | false => rw [lastU_none hm]

theorem appD_eqAll (D : Nat → Bool) : ∀ (es : List Ef) (q : Nat) {st st' : St}, EqAll st st' → EqAll (appD D es q st) (appD D es q st')
  | [], q, st, st', h => h
  | e :: r, q, st, st', h => by
    simp only [appD]
    refine appD_eqAll D r (q + 1) ?_
    cases D q with
    | true => exact h.app e
    | false => exact h

theorem appD_comm (D : Nat → Bool) (f : Ef) : ∀ (es : List Ef) (q : Nat) (st : St), (∀ k e, es[k]? = some e → D (q + k) = true → Comm e f) → EqAll (appD D es q (f.app st)) (f.app (appD D es q st))
  | [], q, st, _ => EqAll.refl _
  | e :: r, q, st, h => by
    simp only [appD]
    have ih := fun st => appD_comm D f r (q + 1) st (fun k e he hd => h (k + 1) e (by simpa using he) (by rw [show q + (k + 1) = q + 1 + k by omega]; exact hd))
    cases hd : D q with
    | true => exact (appD_eqAll D r (q + 1) ((h 0 e rfl (by simpa using hd)).swap st)).trans (ih _)
    | false => exact ih _

theorem appD_congr {D D' : Nat → Bool} : ∀ (es : List Ef) (q : Nat) (st : St), (∀ k, q ≤ k → D k = D' k) → appD D es q st = appD D' es q st
  | [], q, st, _ => rfl
  | e :: r, q, st, h => by
    simp only [appD]
    rw [h q (Nat.le_refl _)]
    exact appD_congr r (q + 1) _ (fun k hk => h k (by omega))

theorem appD_insert {D D' : Nat → Bool} (i : Nat) (f : Ef) (hD : D i = false) (hD' : D' i = true) (hDD : ∀ k, k ≠ i → D' k = D k) : ∀ (es : List Ef) (q : Nat) (st : St), q ≤ i → es[i - q]? = some f → (∀ k e, es[k]? = some e → i < q + k → D (q + k) = true → Comm e f) →
    EqAll (appD D' es q st) (f.app (appD D es q st))
  | [], q, st, _, h, _ => by simp at h
  | e :: r, q, st, hq, hf, h => by
    simp only [appD]
    by_cases hqi : q = i
    · subst hqi
      rw [Nat.sub_self] at hf
      simp only [List.getElem?_cons_zero, Option.some.injEq] at hf
      subst hf
      rw [hD, hD', cond_true, cond_false]
      rw [appD_congr (D := D') (D' := D) r (q + 1) _ (fun k hk => hDD k (by omega))]
      exact appD_comm D e r (q + 1) st (fun k e' he' hd => h (k + 1) e' (by simpa using he') (by omega) (by rw [show q + (k + 1) = q + 1 + k by omega]; exact hd))
    · rw [hDD q hqi]
      have hs : i - q = (i - (q + 1)) + 1 := by omega
      rw [hs, List.getElem?_cons_succ] at hf
      exact appD_insert i f hD hD' hDD r (q + 1) _ (by omega) hf (fun k e' he' hk hd => h (k + 1) e' (by simpa using he') (by omega) (by rw [show q + (k + 1) = q + 1 + k by omega]; exact hd))

theorem appD_all {D : Nat → Bool} : ∀ (es : List Ef) (q : Nat) (st : St), (∀ k, k < es.length → D (q + k) = true) → appD D es q st = allE es st
  | [], q, st, _ => rfl
  | e :: r, q, st, h => by
    have h0 := h 0 (by simp)
    rw [Nat.add_zero] at h0
    simp only [appD, h0, cond_true, allE, List.foldl_cons]
    exact appD_all r (q + 1) _ (fun k hk => by have := h (k + 1) (by simpa using hk); rwa [show q + (k + 1) = q + 1 + k by omega] at this)

theorem appD_none {D : Nat → Bool} : ∀ (es : List Ef) (q : Nat) (st : St), (∀ k, D k = false) → appD D es q st = st
  | [], q, st, _ => rfl
  | e :: r, q, st, h => by
    simp only [appD, h q, cond_false]
    exact appD_none r (q + 1) st h

theorem allE_n : ∀ (es : List Ef) (st : St), (allE es st).n = st.n
  | [], st => rfl
  | e :: r, st => by simp only [allE, List.foldl_cons]; exact (allE_n r (e.app st)).trans (app_n e st)

theorem allE_dom {l : Nat} : ∀ (es : List Ef) (st : St), memL l (allE es st).dom = true ↔ memL l st.dom = true ∨ ∃ e, e ∈ es ∧ memL l (e.u.map (·.1)) = true
  | [], st => by simp [allE]
  | e :: r, st => by
    simp only [allE, List.foldl_cons]
    refine (allE_dom r (e.app st)).trans ?_
    rw [app_dom, Bool.or_eq_true]
    constructor
    · rintro ((h | h) | ⟨e', he', h⟩)
      · exact .inr ⟨e, List.mem_cons_self, h⟩
      · exact .inl h
      · exact .inr ⟨e', List.mem_cons_of_mem _ he', h⟩
    · rintro (h | ⟨e', he', h⟩)
      · exact .inl (.inr h)
      · rcases List.mem_cons.1 he' with rfl | he'
        · exact .inl (.inl h)
        · exact .inr ⟨e', he', h⟩

theorem allE_frm (wr : List Nat) : ∀ (es : List Ef) (st : St), (∀ e, e ∈ es → ∀ d, e.r.wr = some d → d ∈ wr) → Frm st (allE es st) wr
  | [], st, _ => Frm.refl st wr
  | e :: r, st, h => by
    simp only [allE, List.foldl_cons]
    exact (app_frm e st wr (h e List.mem_cons_self)).trans (allE_frm wr r _ (fun e' he' => h e' (List.mem_cons_of_mem _ he')))

theorem allE_stamp : ∀ (es : List Ef) (st : St), (∀ l he s, st.hp l = some (he, s) → s ≤ st.cnt) → ∀ l he s, (allE es st).hp l = some (he, s) → s ≤ (allE es st).cnt
  | [], st, h => h
  | e :: r, st, h => by
    simp only [allE, List.foldl_cons]
    exact allE_stamp r _ (app_stamp e st h)

section
variable (S : Stat) (all : List Oper) (lab : Nat) (lk : Option Nat)

def Guard (st : St) (o : Oper) (e : Ef) (want : Bool) : Prop := ∃ j w d oj, o.guard = some (j, w) ∧ st.tm d = boolSV (cond want w (!w)) ∧ d < st.n ∧ memL d e.r.rd = true ∧ all[j]? = some oj ∧ oj.dst = some d

def GuardU (st : St) (o : Oper) (e : Ef) : Prop := ∃ j w d oj, o.guard = some (j, w) ∧ st.tm d = .tup [] ∧ d < st.n ∧ memL d e.r.rd = true ∧ all[j]? = some oj ∧ oj.dst = some d

structure Fact (i : Nat) (e : Ef) (st : St) (o : Oper) : Prop where
  op : all[i]? = some o
  wr : e.r.wr = o.dst
  dst : dstOK st.n o.dst = true
  new : freshL (lab + i) st.dom = true
  edges : edgesOK i o = true
  tch : e.r.tch = e.u.map (·.1)
  nln : noLnU e.u = true
  out : ((o.guard = none ∨ Guard all st o e true) ∧ (∀ t, memL t (opTmps o) = true → memL t e.r.rd = true) ∧ sem S true (st.mask (opTmps o) e.r.mem []) (lab + i) o (Only e.sv e.u)) ∨
    ((Guard all st o e false ∨ GuardU all st o e) ∧ e.sv = .tup [] ∧ e.u = []) ∨ lk = some i

def Facts (st0 : St) (es : List Ef) : Prop := ∀ i e, es[i]? = some e → ∃ o, Fact S all lab lk i e (allE (es.take i) st0) o ∧ e.r.anc = ancOf ((es.take i).map (·.r)) o ∧ Rec.apartAll lab i e.r 0 ((es.take i).map (·.r)) = true

theorem facts_snoc {st0 : St} {es : List Ef} {e : Ef} {o : Oper} (h : Facts S all lab lk st0 es) (hf : Fact S all lab lk es.length e (allE es st0) o) (ha : e.r.anc = ancOf (es.map (·.r)) o) (hp : Rec.apartAll lab es.length e.r 0 (es.map (·.r)) = true) : Facts S all lab lk st0 (es ++ [e]) := by
  intro i e' he'
  by_cases hi : i < es.length
  · rw [List.getElem?_append_left hi] at he'
    rw [List.take_append_of_le_length (by omega)]
    exact h i e' he'
  · have hi' : i = es.length := by
      have := (List.getElem?_eq_some_iff.1 he').1
      simp at this; omega
    subst hi'
    rw [List.getElem?_concat_length] at he'
    cases he'
    rw [List.take_left]
    exact ⟨o, hf, ha, hp⟩

theorem allE_snoc (es : List Ef) (e : Ef) (st : St) : allE (es ++ [e]) st = e.app (allE es st) := by simp [allE]

theorem put_known {st : St} {d : Nat} {sv : SV} (h : st.tm d = sv) : st.put (some d) sv = st := by
  have : updf st.tm d sv = st.tm := by
    funext t
    by_cases ht : t = d
    · subst ht; rw [updf_same, h]
    · rw [updf_other _ _ ht]
  simp [St.put, this]

theorem text_run (K : St → Prop) (st0 : St) : ∀ (rest : List Oper) (i : Nat) (es0 : List Ef) (st : St), es0.length = i → (∀ j x, rest[j]? = some x → all[i + j]? = some x) → Facts S all lab lk st0 es0 → st = allE es0 st0 → vcAny S all lab rest i (es0.map (·.r)) st K →
    ∃ es, es.length = i + rest.length ∧ Facts S all lab lk st0 es ∧ K (allE es st0)
  | [], i, es0, st, hl, hr, hf, hst, h => ⟨es0, by simpa using hl, hf, by rw [← hst]; exact h⟩
  | o :: rest, i, es0, st, hl, hr, hf, hst, h => by
    have hr' : ∀ j x, rest[j]? = some x → all[i + 1 + j]? = some x := fun j x hx => by have := hr (j + 1) x (by rwa [List.getElem?_cons_succ]); rw [← this]; congr 1; omega
    have ho : all[i]? = some o := by have := hr 0 o rfl; simpa using this
    have next : ∀ (e : Ef) , Facts S all lab lk st0 (es0 ++ [e]) → vcAny S all lab rest (i + 1) (es0.map (·.r) ++ [e.r]) (e.app st) K → ∃ es, es.length = i + (o :: rest).length ∧ Facts S all lab lk st0 es ∧ K (allE es st0) := by
      intro e hfe hv
      obtain ⟨es, h1, h2, h3⟩ := text_run K st0 rest (i + 1) (es0 ++ [e]) (e.app st) (by simp [hl]) hr' hfe (by rw [allE_snoc, hst]) (by simpa using hv)
      exact ⟨es, by rw [h1]; simp; omega, h2, h3⟩
    simp only [vcAny] at h
    obtain ⟨hb, h⟩ := chk_iff.1 h
    simp only [Bool.and_eq_true, Bool.not_eq_true'] at hb
    obtain ⟨⟨hb1, hb2⟩, hb3⟩ := hb
    cases hgd : o.guard with
    | none =>
      rw [hgd] at h
      simp only [anyRun0] at h
      obtain ⟨sv, u, hQ, hs⟩ := sem_def _ h
      obtain ⟨hap0, hk⟩ := chk_iff.1 hQ
      simp only [Bool.and_eq_true] at hap0
      obtain ⟨hnln, hap⟩ := hap0
      refine next ⟨⟨ancOf (es0.map (·.r)) o, opTmps o, o.dst, memOf st o, u.map (·.1)⟩, sv, u⟩ (facts_snoc S all lab lk hf (o := o) ?_ rfl (by rw [hl]; exact hap)) hk
      rw [hl, ← hst]
      exact ⟨ho, rfl, hb2, hb1, hb3, rfl, hnln, .inl ⟨.inl hgd, fun t ht => ht, hs⟩⟩
    | some p =>
      obtain ⟨j, want⟩ := p
      rw [hgd] at h
      simp only at h
      cases hu : undS st all j with
      | some d =>
        rw [hu] at h
        obtain ⟨ht, hlt, oj, hoj, hojd⟩ := undS_ok hu
        simp only [anySkip] at h
        obtain ⟨hap, hk⟩ := chk_iff.1 h
        refine next ⟨⟨ancOf (es0.map (·.r)) o, [d], o.dst, [], []⟩, .tup [], []⟩ (facts_snoc S all lab lk hf (o := o) ?_ rfl (by rw [hl]; exact hap)) hk
        rw [hl, ← hst]
        exact ⟨ho, rfl, hb2, hb1, hb3, rfl, rfl, .inr (.inl ⟨.inr ⟨j, want, d, oj, hgd, ht, hlt, by simp [memL_cons], hoj, hojd⟩, rfl, rfl⟩)⟩
      | none =>
      rw [hu] at h
      simp only at h
      unfold yieldS at h
      cases hoj : all[j]? with
      | none => rw [hoj] at h; exact h.elim
      | some oj =>
        rw [hoj] at h
        simp only at h
        cases hd : oj.dst with
        | none => rw [hd] at h; exact h.elim
        | some d =>
          rw [hd] at h
          simp only at h
          obtain ⟨hlt, h⟩ := chk_iff.1 h
          have hlt : d < st.n := by simpa [Nat.blt_eq] using hlt
          have hb : ∃ b, st.tm d = boolSV b ∧ gdS b want (anyRun S lab o i (es0.map (·.r)) (st.put (some d) (boolSV want)) d fun x st => vcAny S all lab rest (i + 1) (es0.map (·.r) ++ [x]) st K)
              (anySkip lab o i (es0.map (·.r)) (st.put (some d) (boolSV (!want))) d fun x st => vcAny S all lab rest (i + 1) (es0.map (·.r) ++ [x]) st K) := by
            unfold oneB at h
            split at h
            · rename_i b hbb
              exact ⟨b, hbb, h⟩
            · exact h.elim
          obtain ⟨b, hbv, h⟩ := hb
          obtain ⟨k1, k2⟩ := gdS_iff.1 h
          by_cases hbw : b = want
          · have h3 := k1 hbw
            rw [hbw] at hbv
            rw [put_known hbv] at h3
            simp only [anyRun] at h3
            obtain ⟨sv, u, hQ, hs⟩ := sem_def _ h3
            obtain ⟨hap0, hk⟩ := chk_iff.1 hQ
            simp only [Bool.and_eq_true] at hap0
            obtain ⟨hnln, hap⟩ := hap0
            refine next ⟨⟨ancOf (es0.map (·.r)) o, d :: opTmps o, o.dst, memOf st o, u.map (·.1)⟩, sv, u⟩ (facts_snoc S all lab lk hf (o := o) ?_ rfl (by rw [hl]; exact hap)) hk
            rw [hl, ← hst]
            refine ⟨ho, rfl, hb2, hb1, hb3, rfl, hnln, .inl ⟨.inr ⟨j, want, d, oj, hgd, hbv, hlt, by simp [memL_cons], hoj, hd⟩, fun t ht => by simp [memL_cons, ht], hs⟩⟩
          · have h3 := k2 hbw
            have hbn : b = !want := by cases b <;> cases want <;> first | rfl | exact absurd rfl hbw
            rw [hbn] at hbv
            rw [put_known hbv] at h3
            simp only [anySkip] at h3
            obtain ⟨hap, hk⟩ := chk_iff.1 h3
            refine next ⟨⟨ancOf (es0.map (·.r)) o, [d], o.dst, [], []⟩, .tup [], []⟩ (facts_snoc S all lab lk hf (o := o) ?_ rfl (by rw [hl]; exact hap)) hk
            rw [hl, ← hst]
            exact ⟨ho, rfl, hb2, hb1, hb3, rfl, rfl, .inr (.inl ⟨.inl ⟨j, want, d, oj, hgd, hbv, hlt, by simp [memL_cons], hoj, hd⟩, rfl, rfl⟩)⟩

theorem text_runP (K : St → Prop) (st0 : St) : ∀ (rest : List Oper) (i : Nat) (es0 : List Ef) (st : St), es0.length = i → (∀ j x, rest[j]? = some x → all[i + j]? = some x) → Facts S all lab lk st0 es0 → st = allE es0 st0 → vcAny S all lab rest i (es0.map (·.r)) st K →
    ∃ es, es.length = i + rest.length ∧ Facts S all lab lk st0 es ∧ K (allE es st0) ∧ es0 <+: es
  | [], i, es0, st, hl, hr, hf, hst, h => ⟨es0, by simpa using hl, hf, by rw [← hst]; exact h, List.prefix_refl _⟩
  | o :: rest, i, es0, st, hl, hr, hf, hst, h => by
    have hr' : ∀ j x, rest[j]? = some x → all[i + 1 + j]? = some x := fun j x hx => by have := hr (j + 1) x (by rwa [List.getElem?_cons_succ]); rw [← this]; congr 1; omega
    have ho : all[i]? = some o := by have := hr 0 o rfl; simpa using this
    have next : ∀ (e : Ef) , Facts S all lab lk st0 (es0 ++ [e]) → vcAny S all lab rest (i + 1) (es0.map (·.r) ++ [e.r]) (e.app st) K → ∃ es, es.length = i + (o :: rest).length ∧ Facts S all lab lk st0 es ∧ K (allE es st0) ∧ es0 <+: es := by
      intro e hfe hv
      obtain ⟨es, h1, h2, h3, h4⟩ := text_runP K st0 rest (i + 1) (es0 ++ [e]) (e.app st) (by simp [hl]) hr' hfe (by rw [allE_snoc, hst]) (by simpa using hv)
      exact ⟨es, by rw [h1]; simp; omega, h2, h3, (List.prefix_append _ _).trans h4⟩
    simp only [vcAny] at h
    obtain ⟨hb, h⟩ := chk_iff.1 h
    simp only [Bool.and_eq_true, Bool.not_eq_true'] at hb
    obtain ⟨⟨hb1, hb2⟩, hb3⟩ := hb
    cases hgd : o.guard with
    | none =>
      rw [hgd] at h
      simp only [anyRun0] at h
      obtain ⟨sv, u, hQ, hs⟩ := sem_def _ h
      obtain ⟨hap0, hk⟩ := chk_iff.1 hQ
      simp only [Bool.and_eq_true] at hap0
      obtain ⟨hnln, hap⟩ := hap0
      refine next ⟨⟨ancOf (es0.map (·.r)) o, opTmps o, o.dst, memOf st o, u.map (·.1)⟩, sv, u⟩ (facts_snoc S all lab lk hf (o := o) ?_ rfl (by rw [hl]; exact hap)) hk
      rw [hl, ← hst]
      exact ⟨ho, rfl, hb2, hb1, hb3, rfl, hnln, .inl ⟨.inl hgd, fun t ht => ht, hs⟩⟩
    | some p =>
      obtain ⟨j, want⟩ := p
      rw [hgd] at h
      simp only at h
      cases hu : undS st all j with
      | some d =>
        rw [hu] at h
        obtain ⟨ht, hlt, oj, hoj, hojd⟩ := undS_ok hu
        simp only [anySkip] at h
        obtain ⟨hap, hk⟩ := chk_iff.1 h
        refine next ⟨⟨ancOf (es0.map (·.r)) o, [d], o.dst, [], []⟩, .tup [], []⟩ (facts_snoc S all lab lk hf (o := o) ?_ rfl (by rw [hl]; exact hap)) hk
        rw [hl, ← hst]
        exact ⟨ho, rfl, hb2, hb1, hb3, rfl, rfl, .inr (.inl ⟨.inr ⟨j, want, d, oj, hgd, ht, hlt, by simp [memL_cons], hoj, hojd⟩, rfl, rfl⟩)⟩
      | none =>
      rw [hu] at h
      simp only at h
      unfold yieldS at h
      cases hoj : all[j]? with
      | none => rw [hoj] at h; exact h.elim
      | some oj =>
        rw [hoj] at h
        simp only at h
        cases hd : oj.dst with
        | none => rw [hd] at h; exact h.elim
        | some d =>
          rw [hd] at h
          simp only at h
          obtain ⟨hlt, h⟩ := chk_iff.1 h
          have hlt : d < st.n := by simpa [Nat.blt_eq] using hlt
          have hb : ∃ b, st.tm d = boolSV b ∧ gdS b want (anyRun S lab o i (es0.map (·.r)) (st.put (some d) (boolSV want)) d fun x st => vcAny S all lab rest (i + 1) (es0.map (·.r) ++ [x]) st K)
              (anySkip lab o i (es0.map (·.r)) (st.put (some d) (boolSV (!want))) d fun x st => vcAny S all lab rest (i + 1) (es0.map (·.r) ++ [x]) st K) := by
            unfold oneB at h
            split at h
            · rename_i b hbb
              exact ⟨b, hbb, h⟩
            · exact h.elim
          obtain ⟨b, hbv, h⟩ := hb
          obtain ⟨k1, k2⟩ := gdS_iff.1 h
          by_cases hbw : b = want
          · have h3 := k1 hbw
            rw [hbw] at hbv
            rw [put_known hbv] at h3
            simp only [anyRun] at h3
            obtain ⟨sv, u, hQ, hs⟩ := sem_def _ h3
            obtain ⟨hap0, hk⟩ := chk_iff.1 hQ
            simp only [Bool.and_eq_true] at hap0
            obtain ⟨hnln, hap⟩ := hap0
            refine next ⟨⟨ancOf (es0.map (·.r)) o, d :: opTmps o, o.dst, memOf st o, u.map (·.1)⟩, sv, u⟩ (facts_snoc S all lab lk hf (o := o) ?_ rfl (by rw [hl]; exact hap)) hk
            rw [hl, ← hst]
            refine ⟨ho, rfl, hb2, hb1, hb3, rfl, hnln, .inl ⟨.inr ⟨j, want, d, oj, hgd, hbv, hlt, by simp [memL_cons], hoj, hd⟩, fun t ht => by simp [memL_cons, ht], hs⟩⟩
          · have h3 := k2 hbw
            have hbn : b = !want := by cases b <;> cases want <;> first | rfl | exact absurd rfl hbw
            rw [hbn] at hbv
            rw [put_known hbv] at h3
            simp only [anySkip] at h3
            obtain ⟨hap, hk⟩ := chk_iff.1 h3
            refine next ⟨⟨ancOf (es0.map (·.r)) o, [d], o.dst, [], []⟩, .tup [], []⟩ (facts_snoc S all lab lk hf (o := o) ?_ rfl (by rw [hl]; exact hap)) hk
            rw [hl, ← hst]
            exact ⟨ho, rfl, hb2, hb1, hb3, rfl, rfl, .inr (.inl ⟨.inl ⟨j, want, d, oj, hgd, hbv, hlt, by simp [memL_cons], hoj, hd⟩, rfl, rfl⟩)⟩

theorem text_runR (K : List Rec → St → Prop) (st0 : St) : ∀ (rest : List Oper) (i : Nat) (es0 : List Ef) (st : St), es0.length = i → (∀ j x, rest[j]? = some x → all[i + j]? = some x) → Facts S all lab lk st0 es0 → st = allE es0 st0 → vcAnyR S all lab rest i (es0.map (·.r)) st K →
    ∃ es, es.length = i + rest.length ∧ Facts S all lab lk st0 es ∧ K (es.map (·.r)) (allE es st0)
  | [], i, es0, st, hl, hr, hf, hst, h => ⟨es0, by simpa using hl, hf, by rw [← hst]; exact h⟩
  | o :: rest, i, es0, st, hl, hr, hf, hst, h => by
    have hr' : ∀ j x, rest[j]? = some x → all[i + 1 + j]? = some x := fun j x hx => by have := hr (j + 1) x (by rwa [List.getElem?_cons_succ]); rw [← this]; congr 1; omega
    have ho : all[i]? = some o := by have := hr 0 o rfl; simpa using this
    have next : ∀ (e : Ef) , Facts S all lab lk st0 (es0 ++ [e]) → vcAnyR S all lab rest (i + 1) (es0.map (·.r) ++ [e.r]) (e.app st) K → ∃ es, es.length = i + (o :: rest).length ∧ Facts S all lab lk st0 es ∧ K (es.map (·.r)) (allE es st0) := by
      intro e hfe hv
      obtain ⟨es, h1, h2, h3⟩ := text_runR K st0 rest (i + 1) (es0 ++ [e]) (e.app st) (by simp [hl]) hr' hfe (by rw [allE_snoc, hst]) (by simpa using hv)
      exact ⟨es, by rw [h1]; simp; omega, h2, h3⟩
    simp only [vcAnyR] at h
    obtain ⟨hb, h⟩ := chk_iff.1 h
    simp only [Bool.and_eq_true, Bool.not_eq_true'] at hb
    obtain ⟨⟨hb1, hb2⟩, hb3⟩ := hb
    cases hgd : o.guard with
    | none =>
      rw [hgd] at h
      simp only [anyRun0] at h
      obtain ⟨sv, u, hQ, hs⟩ := sem_def _ h
      obtain ⟨hap0, hk⟩ := chk_iff.1 hQ
      simp only [Bool.and_eq_true] at hap0
      obtain ⟨hnln, hap⟩ := hap0
      refine next ⟨⟨ancOf (es0.map (·.r)) o, opTmps o, o.dst, memOf st o, u.map (·.1)⟩, sv, u⟩ (facts_snoc S all lab lk hf (o := o) ?_ rfl (by rw [hl]; exact hap)) hk
      rw [hl, ← hst]
      exact ⟨ho, rfl, hb2, hb1, hb3, rfl, hnln, .inl ⟨.inl hgd, fun t ht => ht, hs⟩⟩
    | some p =>
      obtain ⟨j, want⟩ := p
      rw [hgd] at h
      simp only at h
      cases hu : undS st all j with
      | some d =>
        rw [hu] at h
        obtain ⟨ht, hlt, oj, hoj, hojd⟩ := undS_ok hu
        simp only [anySkip] at h
        obtain ⟨hap, hk⟩ := chk_iff.1 h
        refine next ⟨⟨ancOf (es0.map (·.r)) o, [d], o.dst, [], []⟩, .tup [], []⟩ (facts_snoc S all lab lk hf (o := o) ?_ rfl (by rw [hl]; exact hap)) hk
        rw [hl, ← hst]
        exact ⟨ho, rfl, hb2, hb1, hb3, rfl, rfl, .inr (.inl ⟨.inr ⟨j, want, d, oj, hgd, ht, hlt, by simp [memL_cons], hoj, hojd⟩, rfl, rfl⟩)⟩
      | none =>
      rw [hu] at h
      simp only at h
      unfold yieldS at h
      cases hoj : all[j]? with
      | none => rw [hoj] at h; exact h.elim
      | some oj =>
        rw [hoj] at h
        simp only at h
        cases hd : oj.dst with
        | none => rw [hd] at h; exact h.elim
        | some d =>
          rw [hd] at h
          simp only at h
          obtain ⟨hlt, h⟩ := chk_iff.1 h
          have hlt : d < st.n := by simpa [Nat.blt_eq] using hlt
          have hb : ∃ b, st.tm d = boolSV b ∧ gdS b want (anyRun S lab o i (es0.map (·.r)) (st.put (some d) (boolSV want)) d fun x st => vcAnyR S all lab rest (i + 1) (es0.map (·.r) ++ [x]) st K)
              (anySkip lab o i (es0.map (·.r)) (st.put (some d) (boolSV (!want))) d fun x st => vcAnyR S all lab rest (i + 1) (es0.map (·.r) ++ [x]) st K) := by
            unfold oneB at h
            split at h
            · rename_i b hbb
              exact ⟨b, hbb, h⟩
            · exact h.elim
          obtain ⟨b, hbv, h⟩ := hb
          obtain ⟨k1, k2⟩ := gdS_iff.1 h
          by_cases hbw : b = want
          · have h3 := k1 hbw
            rw [hbw] at hbv
            rw [put_known hbv] at h3
            simp only [anyRun] at h3
            obtain ⟨sv, u, hQ, hs⟩ := sem_def _ h3
            obtain ⟨hap0, hk⟩ := chk_iff.1 hQ
            simp only [Bool.and_eq_true] at hap0
            obtain ⟨hnln, hap⟩ := hap0
            refine next ⟨⟨ancOf (es0.map (·.r)) o, d :: opTmps o, o.dst, memOf st o, u.map (·.1)⟩, sv, u⟩ (facts_snoc S all lab lk hf (o := o) ?_ rfl (by rw [hl]; exact hap)) hk
            rw [hl, ← hst]
            refine ⟨ho, rfl, hb2, hb1, hb3, rfl, hnln, .inl ⟨.inr ⟨j, want, d, oj, hgd, hbv, hlt, by simp [memL_cons], hoj, hd⟩, fun t ht => by simp [memL_cons, ht], hs⟩⟩
          · have h3 := k2 hbw
            have hbn : b = !want := by cases b <;> cases want <;> first | rfl | exact absurd rfl hbw
            rw [hbn] at hbv
            rw [put_known hbv] at h3
            simp only [anySkip] at h3
            obtain ⟨hap, hk⟩ := chk_iff.1 h3
            refine next ⟨⟨ancOf (es0.map (·.r)) o, [d], o.dst, [], []⟩, .tup [], []⟩ (facts_snoc S all lab lk hf (o := o) ?_ rfl (by rw [hl]; exact hap)) hk
            rw [hl, ← hst]
            exact ⟨ho, rfl, hb2, hb1, hb3, rfl, rfl, .inr (.inl ⟨.inl ⟨j, want, d, oj, hgd, hbv, hlt, by simp [memL_cons], hoj, hd⟩, rfl, rfl⟩)⟩
end
end Go.GX
set_option linter.unusedVariables false
namespace Go.GX
variable [Inhabited BaseD]
open Go.RowKit Go.Shelf Go.Proofs

theorem testBit_pow (n i : Nat) : Nat.testBit (2 ^ n) i = decide (n = i) := Nat.testBit_two_pow

theorem ancGo_spec (rs : List Rec) (i : Nat) : ∀ (es : List Edge) (m : Nat), Nat.testBit (ancGo rs es m) i = true → Nat.testBit m i = true ∨ ∃ e, e ∈ es ∧ Region.binds .any e = true ∧ (e.on = i ∨ ∃ x, rs[e.on]? = some x ∧ Nat.testBit x.anc i = true)
  | [], m, h => .inl h
  | e :: r, m, h => by
    simp only [ancGo] at h
    rcases ancGo_spec rs i r _ h with h1 | ⟨e', he', h1⟩
    · cases hb : Region.binds .any e with
      | false => rw [hb] at h1; exact .inl h1
      | true =>
        rw [hb, cond_true, Nat.testBit_or, Nat.testBit_or, testBit_pow] at h1
        simp only [Bool.or_eq_true, decide_eq_true_eq] at h1
        rcases h1 with (h1 | h1) | h1
        · exact .inl h1
        · exact .inr ⟨e, List.mem_cons_self, hb, .inl h1⟩
        · refine .inr ⟨e, List.mem_cons_self, hb, .inr ?_⟩
          cases hx : rs[e.on]? with
          | none => rw [hx] at h1; simp at h1
          | some x => rw [hx] at h1; exact ⟨x, rfl, h1⟩
    · exact .inr ⟨e', List.mem_cons_of_mem _ he', h1⟩

theorem ancOf_spec {rs : List Rec} {o : Oper} {i : Nat} (h : Nat.testBit (ancOf rs o) i = true) : ∃ e, e ∈ o.after.toList ∧ Region.binds .any e = true ∧ (e.on = i ∨ ∃ x, rs[e.on]? = some x ∧ Nat.testBit x.anc i = true) := by
  rcases ancGo_spec rs i o.after.toList 0 h with h | h
  · simp at h
  · exact h

theorem apartAll_spec (lab j : Nat) (y : Rec) : ∀ (rs : List Rec) (i : Nat), Rec.apartAll lab j y i rs = true → ∀ k x, rs[k]? = some x → Nat.testBit y.anc (i + k) = true ∨ x.apart lab (i + k) j y = true
  | [], i, h, k, x, hx => by simp at hx
  | x0 :: r, i, h, k, x, hx => by
    simp only [Rec.apartAll, Bool.and_eq_true, Bool.or_eq_true] at h
    cases k with
    | zero => simp only [List.getElem?_cons_zero, Option.some.injEq] at hx; subst hx; exact h.1
    | succ k =>
      have := apartAll_spec lab j y r (i + 1) h.2 k x (by simpa using hx)
      rwa [show i + 1 + k = i + (k + 1) by omega] at this

theorem apartL_spec {a b : List Nat} (h : apartL a b = true) : ∀ l, memL l a = true → memL l b = false := by
  induction a with
  | nil => intro l hl; cases hl
  | cons k r ih =>
    intro l hl
    simp only [apartL, Bool.and_eq_true, Bool.not_eq_true'] at h
    rw [memL_cons, Bool.or_eq_true] at hl
    rcases hl with hl | hl
    · have := Nat.eq_of_beq_eq_true hl
      subst this
      exact h.1
    · exact ih h.2 l hl

theorem apartO_spec {d : Option Nat} {rd : List Nat} (h : apartO d rd = true) : ∀ t, d = some t → memL t rd = false := by
  intro t ht
  subst ht
  simpa [apartO] using h

section
variable {P : Program} {glb : Nat → Option GV} {Bk X0 : Nat → Prop} {w0 : World} {st0 : St} {ρ0 : Lab} {S : Stat} {lab : Nat} {F : Fence} {n : Nat} {all : List Oper} {es : List Ef} {D : Nat → Bool} {lk : Option Nat}

structure Two (lab i j : Nat) (x y : Ef) : Prop where
  xy : NoTouch x y.r.rd y.r.mem
  yx : NoTouch y x.r.rd x.r.mem
  cm : Comm x y
  mc : Comm y x
  li : freshL (lab + i) (y.u.map (·.1)) = true

theorem two_of {i j : Nat} {x y : Ef} (h : x.r.apart lab i j y.r = true) (hx : x.r.tch = x.u.map (·.1)) (hy : y.r.tch = y.u.map (·.1)) : Two lab i j x y := by
  simp only [Rec.apart, Bool.and_eq_true, Bool.not_eq_true'] at h
  obtain ⟨⟨⟨⟨⟨h1, h2⟩, h3⟩, h4⟩, h5⟩, h6⟩ := h
  rw [hx] at h3 h6
  rw [hy] at h3 h4 h5
  have g1 := apartO_spec h1
  have g2 := apartO_spec h2
  have g3 := apartL_spec h3
  have g4 := apartL_spec h4
  have sym : ∀ l, memL l (y.u.map (·.1)) = true → memL l (x.u.map (·.1)) = false := by
    intro l hl
    cases hm : memL l (x.u.map (·.1)) with
    | false => rfl
    | true =>
      have := g3 l hm
      rw [memL_append, hl] at this; cases this
  refine ⟨⟨fun d hd => ?_, fun l hl => ?_⟩, ⟨fun d hd => g2 d hd, fun l hl => ?_⟩, ⟨fun d hd hy' => ?_, fun l hl => ?_⟩, ⟨fun d hd hx' => ?_, sym⟩, h5⟩
  · have := g1 d hd
    rw [memL_append, Bool.or_eq_false_iff] at this
    exact this.2
  · cases hm : memL l (x.u.map (·.1)) with
    | false => rfl
    | true =>
      have := g3 l hm
      rw [memL_append, hl, Bool.or_true] at this; cases this
  · cases hm : memL l (y.u.map (·.1)) with
    | false => rfl
    | true => rw [g4 l hm] at hl; cases hl
  · have := g1 d hd
    rw [memL_append, hy'] at this
    simp [memL_cons] at this
  · have := g3 l hl
    rw [memL_append, Bool.or_eq_false_iff] at this
    exact this.1
  · have := g1 d hx'
    rw [memL_append, hd] at this
    simp [memL_cons] at this

theorem facts_two (hf : Facts S all lab lk st0 es) {i j : Nat} {x y : Ef} (hij : i < j) (hx : es[i]? = some x) (hy : es[j]? = some y) : Nat.testBit y.r.anc i = true ∨ Two lab i j x y := by
  obtain ⟨oy, fy, _, hap⟩ := hf j y hy
  obtain ⟨ox, fx, _, _⟩ := hf i x hx
  have hg : ((es.take j).map (·.r))[i]? = some x.r := by
    rw [List.getElem?_map, List.getElem?_take, if_pos hij, hx]; rfl
  rcases apartAll_spec lab j y.r _ 0 hap i x.r hg with h | h
  · rw [Nat.zero_add] at h; exact .inl h
  · rw [Nat.zero_add] at h; exact .inr (two_of h fx.tch fy.tch)

def Closed (es : List Ef) (D : Nat → Bool) : Prop := ∀ k e, es[k]? = some e → D k = true → ∀ i, Nat.testBit e.r.anc i = true → D i = true

def canon (es : List Ef) (st0 : St) (D : Nat → Bool) (dom : List Nat) : St :=
  ⟨st0.n, (appD D es 0 st0).tm, fun l => ((appD D es 0 st0).look l).map fun h => (h, 0), 0, dom⟩

theorem canon_look {dom : List Nat} {l : Nat} : (canon es st0 D dom).look l = (appD D es 0 st0).look l := by
  simp only [canon, St.look]
  cases (appD D es 0 st0).hp l <;> rfl

def InvD (P : Program) (glb : Nat → Option GV) (Bk X0 : Nat → Prop) (w0 : World) (es : List Ef) (st0 : St) (ρ0 : Lab) (D : Nat → Bool) (a : Act) (W : World) : Prop :=
  ∃ ρ dom, ρ0.le ρ ∧ Mt P glb Bk X0 w0 (canon es st0 D dom) ρ a W ∧ ∀ l, memL l dom = true → memL l st0.dom = true ∨ ∃ k e, es[k]? = some e ∧ D k = true ∧ memL l (e.u.map (·.1)) = true

theorem allE_take_dom {i : Nat} {q : Nat} (h : freshL q (allE (es.take i) st0).dom = true) : freshL q st0.dom = true ∧ ∀ k e, k < i → es[k]? = some e → freshL q (e.u.map (·.1)) = true :=
  ⟨freshL_mono (fun l hl => .inl ((allE_dom (es.take i) st0).2 (.inl hl))) h, fun k e hk he => freshL_mono (fun l hl => .inl ((allE_dom (es.take i) st0).2 (.inr ⟨e, List.mem_of_getElem? (i := k) (by rw [List.getElem?_take, if_pos hk]; exact he), hl⟩))) h⟩

theorem any_step (hF : Wide F P) (hS : StatOK P S) (hct : CtOK P glb S) (hg : S.glb = glb) (hf : Facts S all lab lk st0 es) (hlen : es.length ≤ all.length) (hcl : Closed es D) {i : Nat} {e : Ef} {o : Oper} (hi : es[i]? = some e) (ho : all[i]? = some o) (hlk : lk ≠ some i) (hD : D i = false)
    (hready : ∀ ed, ed ∈ o.after.toList → Region.binds .any ed = true → D ed.on = true) {D' : Nat → Bool} (hD' : D' i = true) (hDD : ∀ k, k ≠ i → D' k = D k) {Q : Exit → Act → World → Prop} {K : Act → World → Prop} (hK : ∀ a W, InvD P glb Bk X0 w0 es st0 ρ0 D' a W → Closed es D' → K a W) {a : Act} {W : World} (hinv : InvD P glb Bk X0 w0 es st0 ρ0 D a W) :
    wpOpIn F n P all.toArray Q i K a W := by
  obtain ⟨ρ, dom, hle0, m, hdom⟩ := hinv
  obtain ⟨o', fe, hanc, _⟩ := hf i e hi
  have : o' = o := by have := fe.op; rw [ho] at this; cases this; rfl
  subst this
  have ancD : ∀ k, Nat.testBit e.r.anc k = true → D k = true := by
    intro k hk
    rw [hanc] at hk
    obtain ⟨ed, hed, hbd, hcase⟩ := ancOf_spec hk
    have hon := hready ed hed hbd
    rcases hcase with rfl | ⟨x, hx, hxk⟩
    · exact hon
    · rw [List.getElem?_map, List.getElem?_take] at hx
      split at hx
      · cases hex : es[ed.on]? with
        | none => rw [hex] at hx; cases hx
        | some ex =>
          rw [hex] at hx
          cases hx
          exact hcl ed.on ex hex hon k hxk
      · cases hx
  have hcl' : Closed es D' := by
    intro k ek hek hk j hj
    by_cases hki : k = i
    · subst hki
      rw [hi] at hek; cases hek
      have := ancD j hj
      rw [hDD j (by intro hh; subst hh; rw [hD] at this; cases this)]
      exact this
    · rw [hDD k hki] at hk
      have := hcl k ek hek hk j hj
      rw [hDD j (by intro hh; subst hh; rw [hD] at this; cases this)]
      exact this
  have later : ∀ k ek, es[k]? = some ek → i < k → D k = true → Two lab i k e ek := by
    intro k ek hek hk hd
    rcases facts_two hf hk hi hek with h | h
    · have := hcl k ek hek hd i h
      rw [hD] at this; cases this
    · exact h
  have before : ∀ k ek, es[k]? = some ek → k < i → D k = false → Two lab k i ek e := by
    intro k ek hek hk hd
    rcases facts_two hf hk hek hi with h | h
    · rw [ancD k h] at hd; cases hd
    · exact h
  have heq : EqOn e.r.rd e.r.mem (appD D es 0 st0) (allE (es.take i) st0) := by
    have := part_eq D e.r.rd e.r.mem i es 0 st0 st0 ⟨fun _ _ => rfl, fun _ _ => rfl⟩ (fun k ek hek hk hd => (before k ek hek (by omega) (by simpa using hd)).xy) (fun k ek hek hk hd => by
      have hd' : D k = true := by simpa using hd
      have hki : i < k := by
        rcases Nat.lt_or_ge i k with h | h
        · exact h
        · have : k = i := by omega
          subst this; rw [hD] at hd'; cases hd'
      exact (later k ek hek hki hd').yx)
    rwa [Nat.sub_zero] at this
  have hins : EqAll (appD D' es 0 st0) (e.app (appD D es 0 st0)) := appD_insert i e hD hD' hDD es 0 st0 (Nat.zero_le _) (by simpa using hi) (fun k ek hek hk hd => (later k ek hek (by omega) (by simpa using hd)).mc)
  have hnew : freshL (lab + i) dom = true := by
    obtain ⟨n1, n2⟩ := allE_take_dom fe.new
    refine freshL_mono (d := []) (fun l hl => .inr ?_) rfl
    rcases hdom _ hl with h | ⟨k, ek, hek, hk, h⟩
    · exact ⟨_, n1, h⟩
    · rcases Nat.lt_trichotomy k i with hlt | heq' | hgt
      · exact ⟨_, n2 k ek hlt hek, h⟩
      · subst heq'; rw [hD] at hk; cases hk
      · exact ⟨_, (later k ek hek hgt hk).li, h⟩
  have hdst : dstOK st0.n o'.dst = true := by have := fe.dst; rwa [allE_n] at this

  have done : ∀ (ρ' : Lab) (a' : Act) (W' : World), ρ0.le ρ' → Mt P glb Bk X0 w0 ((canon es st0 D dom).upds e.u) ρ' a' W' → ∀ v, RepV P ρ' (Xs ((canon es st0 D dom).upds e.u) ρ' X0) W' e.sv v → K (a'.put o'.dst v) W' := by
    intro ρ' a' W' hle' m' v hv
    have m2 := m'.put o'.dst e.sv v (by rw [upds_n]; exact hdst) hv
    refine hK _ _ ⟨ρ', ((canon es st0 D dom).upds e.u).dom, hle', ?_, fun l hl => ?_⟩ hcl'
    · refine m2.same ?_ (fun t => ?_) (fun l => ?_) (fun l v hlv => ?_) (fun l he s hh => ?_)
      · rw [put_n, upds_n]; rfl
      · show (appD D' es 0 st0).tm t = _
        rw [hins.1 t, app_tm, fe.wr]
        cases o'.dst with
        | none => simp [St.put, upds_tm, canon]
        | some d => simp [St.put, updf, upds_tm, canon]
      · rw [canon_look, hins.2 l, app_look, put_look, upds_look, canon_look]
        cases lastU e.u l <;> rfl
      · exact m'.dom l v hlv
      · have : ((appD D' es 0 st0).look l).map (fun h => (h, 0)) = some (he, s) := hh
        cases hq : (appD D' es 0 st0).look l with
        | none => rw [hq] at this; cases this
        | some x => rw [hq] at this; cases this; exact Nat.le_refl _
    · rw [upds_dom, Bool.or_eq_true] at hl
      rcases hl with hl | hl
      · exact .inr ⟨i, e, hi, hD', hl⟩
      · rcases hdom l hl with h | ⟨k, ek, hek, hk, h⟩
        · exact .inl h
        · refine .inr ⟨k, ek, hek, ?_, h⟩
          rw [hDD k (by intro hh; subst hh; rw [hD] at hk; cases hk)]; exact hk

  have hguard : ∀ want, Guard all (allE (es.take i) st0) o' e want → ∃ j w, o'.guard = some (j, w) ∧ yielded all.toArray a.tmps j = some (cond want w (!w)) := by
    rintro want ⟨j, w, d, oj, h1, h2, h3, h4, h5, h6⟩
    refine ⟨j, w, h1, ?_⟩
    have htm : (canon es st0 D dom).tm d = boolSV (cond want w (!w)) := by
      show (appD D es 0 st0).tm d = _
      rw [heq.1 d h4, h2]
    have hr := m.tms d
    rw [htm] at hr
    obtain ⟨c, hc, hr2⟩ := hr
    cases hc
    obtain ⟨v, hv, _, hvb⟩ := hr2
    cases hv
    have hlt : d < a.tmps.size := by rw [m.size]; rw [allE_n] at h3; exact h3
    have hg : a.tmps[d]? = some (.bool (cond want w (!w))) := by
      rw [Array.getElem?_eq_getElem hlt]
      simp only [Array.getD_eq_getD_getElem?, Array.getElem?_eq_getElem hlt, Option.getD_some] at hvb
      rw [hvb]
    simp [yielded, h5, h6, hg]
  unfold wpOpIn
  have hgo : all.toArray[i]? = some o' := by simpa using ho
  rw [hgo]
  simp only
  rcases fe.out with ⟨hgd, hrd, hs⟩ | ⟨hgd, hsv, hu⟩ | hlk'
  rotate_left 2
  · exact absurd hlk' hlk
  · have hw : Region.wanted o' (yielded all.toArray a.tmps) = true := by
      rcases hgd with hgd | hgd
      · exact wanted_none hgd _
      · obtain ⟨j, w, h1, h2⟩ := hguard true hgd
        simp [Region.wanted, h1, h2]
    rw [hw]
    simp only [if_true]
    have mp := m.part (opTmps o') e.r.mem
    have hmask : (canon es st0 D dom).mask (opTmps o') e.r.mem [] = (allE (es.take i) st0).mask (opTmps o') e.r.mem [] := by
      have h1 : (canon es st0 D dom).n = (allE (es.take i) st0).n := by rw [allE_n]; rfl
      have h2 : (fun t => cond (memL t (opTmps o')) ((canon es st0 D dom).tm t) .any) = fun t => cond (memL t (opTmps o')) ((allE (es.take i) st0).tm t) .any := by
        funext t
        cases hm : memL t (opTmps o') with
        | false => rfl
        | true => exact heq.1 t (hrd t hm)
      have h3 : (fun l => cond (memL l e.r.mem) (((canon es st0 D dom).look l).map fun h => (h, 0)) none) = fun l => cond (memL l e.r.mem) (((allE (es.take i) st0).look l).map fun h => (h, 0)) none := by
        funext l
        cases hm : memL l e.r.mem with
        | false => rfl
        | true => rw [canon_look, heq.2 l hm]
      unfold St.mask
      rw [h1, h2, h3]
    have hsem : sem S true ((canon es st0 D dom).mask (opTmps o') e.r.mem (canon es st0 D dom).dom) (lab + i) o' (Only e.sv e.u) := by
      have := sem_dom S true ((canon es st0 D dom).mask (opTmps o') e.r.mem []) (canon es st0 D dom).dom (lab + i) o' (Only e.sv e.u)
      rw [hmask] at this
      have h2 := this.mpr hs
      rw [← hmask] at h2
      exact h2
    obtain ⟨h1, h2⟩ := sem_ok hS hct hg mp hnew hsem
    have heval : ({ a with defers := [] } : Act).eval = a.eval := funext fun x => by cases x <;> rfl
    have h1' : OpOut P o' a W (Fits P glb (bkOf (canon es st0 D dom) ρ e.r.mem W) (xOf (canon es st0 D dom) ρ X0 e.r.mem W) W ((canon es st0 D dom).mask (opTmps o') e.r.mem (canon es st0 D dom).dom) ρ { a with defers := [] } W (Only e.sv e.u)) := by
      unfold OpOut at h1 ⊢
      rw [heval] at h1
      exact h1
    refine h1'.wpIn hF h2 fun v w' hfit => ?_
    obtain ⟨sv, u, ρ', ⟨rfl, rfl⟩, hle, m', hv, _⟩ := hfit
    obtain ⟨m3, hsub⟩ := m.whole (opTmps o') e.r.mem e.u (fun l h hl => noLnU_spec fe.nln hl) hle m'
    exact done ρ' a w' (hle0.trans hle) m3 v (hv.mono ρ'.le_refl (Evo.mono m3.Xlt hsub))
  · have hw : Region.wanted o' (yielded all.toArray a.tmps) = false := by
      rcases hgd with hgd | ⟨j, w, d, oj, h1, h2, h3, h4, h5, h6⟩
      · obtain ⟨j, w, h1, h2⟩ := hguard false hgd
        simp only [Region.wanted, h1, h2]
        cases w <;> rfl
      · have htm : (canon es st0 D dom).tm d = .tup [] := by
          show (appD D es 0 st0).tm d = _
          rw [heq.1 d h4, h2]
        have hr := m.tms d
        rw [htm] at hr
        obtain ⟨vs, hvs, hnil⟩ := hr
        have hnil : vs = [] := hnil
        subst hnil
        simp [Region.wanted, h1, yielded_und h5 h6 hvs]
    rw [hw]
    simp only [Bool.false_eq_true, if_false]
    refine ⟨fun f _ => hF.fn f, ?_⟩
    refine done ρ a W hle0 (by rw [hu]; exact m) undef (by rw [hsv]; exact rep_und)

theorem countP_lt {α : Type} {p q : α → Bool} (hpq : ∀ x, q x = true → p x = true) : ∀ (l : List α) (x : α), x ∈ l → p x = true → q x = false → l.countP q < l.countP p
  | y :: r, x, hx, hp, hq => by
    have hle : r.countP q ≤ r.countP p := List.countP_mono_left (fun z _ hz => hpq z hz)
    rw [List.countP_cons, List.countP_cons]
    rcases List.mem_cons.1 hx with rfl | hx
    · rw [hp, hq]; simp; omega
    · have := countP_lt hpq r x hx hp hq
      cases hqy : q y with
      | false => simp; omega
      | true => rw [hpq y hqy]; simp; omega

theorem any_run (hF : Wide F P) (hS : StatOK P S) (hct : CtOK P glb S) (hg : S.glb = glb) (hf : Facts S all lab lk st0 es) (hlen : es.length = all.length) {Q : Exit → Act → World → Prop}
    (hQ : ∀ a W, InvD P glb Bk X0 w0 es st0 ρ0 (fun k => decide (k < all.length)) a W → Q .normal a W) : ∀ (fuel : Nat) (listed : Array Bool) (a : Act) (W : World), listed.size = all.length →
    (List.range all.length).countP (fun k => !listed.getD k false) ≤ fuel → InvD P glb Bk X0 w0 es st0 ρ0 (fun k => listed.getD k false) a W → Closed es (fun k => listed.getD k false) → (∀ m, lk = some m → listed.getD m false = true) → wpAnyIn F n P .any all.toArray Q fuel listed a W := by

  have fin : ∀ (listed : Array Bool) (a : Act) (W : World), listed.size = all.length → (∀ k, k < all.length → listed.getD k false = true) → InvD P glb Bk X0 w0 es st0 ρ0 (fun k => listed.getD k false) a W → Q .normal a W := by
    intro listed a W hsz hall hinv
    refine hQ a W ?_
    have : (fun k => listed.getD k false) = fun k => decide (k < all.length) := by
      funext k
      by_cases hk : k < all.length
      · rw [hall k hk]; simp [hk]
      · simp [hk, Array.getElem?_eq_none (by omega : listed.size ≤ k)]
    rw [this] at hinv
    exact hinv
  have getD_eq : ∀ (listed : Array Bool) k, k < listed.size → listed.getD k true = listed.getD k false := by
    intro listed k hk
    simp [Array.getElem?_eq_getElem hk]
  intro fuel
  induction fuel with
  | zero =>
    intro listed a W hsz hcount hinv hcl hlk
    have hall : ∀ k, k < all.length → listed.getD k false = true := by
      intro k hk
      have h0 : (List.range all.length).countP (fun k => !listed.getD k false) = 0 := by omega
      have := List.countP_eq_zero.1 h0 k (List.mem_range.2 hk)
      simpa using this
    refine ⟨?_, fin listed a W hsz hall hinv⟩
    cases hr : Region.ready .any all.toArray listed with
    | nil => rfl
    | cons i r =>
      have hi : i ∈ Region.ready .any all.toArray listed := by rw [hr]; exact List.mem_cons_self
      obtain ⟨h1, o, h2, _⟩ := mem_ready.1 hi
      have hlt : i < all.length := by
        have := (Array.getElem?_eq_some_iff.1 h2).1
        simpa using this
      rw [getD_eq listed i (by omega), hall i hlt] at h1
      cases h1
  | succ fuel ih =>
    intro listed a W hsz hcount hinv hcl hlk
    refine ⟨fun hr => fin listed a W hsz ?_ hinv, fun i hi => ?_⟩
    · intro k
      induction k using Nat.strongRecOn with
      | _ k ihk =>
        intro hk
        cases hd : listed.getD k false with
        | true => rfl
        | false =>
          exfalso
          have hek : es[k]? = some es[k] := List.getElem?_eq_getElem (by omega)
          obtain ⟨o, fe, _, _⟩ := hf k _ hek
          have : k ∈ Region.ready .any all.toArray listed := by
            refine mem_ready.2 ⟨by rw [getD_eq listed k (by omega)]; exact hd, o, by simpa using fe.op, fun ed hed hb => ?_⟩
            have hedge := fe.edges
            simp only [edgesOK, List.all_eq_true] at hedge
            have := hedge ed (by simpa using hed)
            rw [hb] at this
            have hlt : ed.on < k := by simpa [Nat.blt_eq] using this
            exact ihk ed.on hlt (by omega)
          rw [hr] at this
          simp at this
    · obtain ⟨h1, o, h2, h3⟩ := mem_ready.1 hi
      have hlt : i < all.length := by
        have := (Array.getElem?_eq_some_iff.1 h2).1
        simpa using this
      have hd : listed.getD i false = false := by rw [← getD_eq listed i (by omega)]; exact h1
      have hset : (listed.setIfInBounds i true).getD i false = true := by simp [hsz, hlt]
      refine any_step hF hS hct hg hf (Nat.le_of_eq hlen) hcl (i := i) (D' := fun k => (listed.setIfInBounds i true).getD k false) (List.getElem?_eq_getElem (by omega)) (by simpa using h2) (fun hh => by rw [hlk i hh] at hd; cases hd) hd (fun ed hed hb => h3 ed (by simpa using hed) hb) hset (fun k hk => getD_set_ne false (Ne.symm hk)) (fun a' W' hinv' hcl' => ?_) hinv
      refine ih _ a' W' (by simpa using hsz) ?_ hinv' hcl' (fun m hm => getD_set_true (hlk m hm))
      have hlt2 : (List.range all.length).countP (fun k => !(listed.setIfInBounds i true).getD k false) < (List.range all.length).countP (fun k => !listed.getD k false) := by
        refine countP_lt (fun x hx => ?_) _ i (List.mem_range.2 hlt) (by rw [hd]; rfl) (by rw [hset]; rfl)
        cases hq : listed.getD x false with
        | false => rfl
        | true => rw [getD_set_true hq] at hx; cases hx
      omega

theorem vcAny_ok (hF : Wide F P) (hS : StatOK P S) (hct : CtOK P glb S) (hg : S.glb = glb) (id : Nat) (ops : Array Oper) (lab : Nat) (K : St → Prop) (Q : Exit → Act → World → Prop) (wr : List Nat)
    (hwr : ∀ (j : Nat) o d, ops.toList[j]? = some o → o.dst = some d → d ∈ wr) {a : Act} {W : World} (m : Mt P glb Bk X0 w0 st0 ρ0 a W) (h : vcAny S ops.toList lab ops.toList 0 [] st0 K)
    (hQ : ∀ a W, PostR P glb Bk X0 w0 st0 ρ0 wr K a W → Q .normal a W) : (Code.region id ops true).wpIn F n P Q a W := by
  obtain ⟨es, hlen, hf, hk⟩ := text_run S ops.toList lab none K st0 ops.toList 0 [] st0 rfl (fun j x hx => by rw [Nat.zero_add]; exact hx) (fun i e he => by simp at he) rfl h
  rw [Nat.zero_add] at hlen
  refine wpIn_region_any hS.mixed ?_
  have m1 : Mt P glb Bk X0 w0 st0 ρ0 a { W with drawn := W.drawn + 1 } := m.below ⟨rfl, rfl, rfl, Nat.le_refl _, fun _ _ => rfl⟩
  have hsz : ops.size = ops.toList.length := by simp
  have := any_run (Bk := Bk) (X0 := X0) (w0 := w0) (ρ0 := ρ0) (n := n) hF hS hct hg hf hlen (Q := Q) (fun a' W' hinv => ?_) ops.size (Array.replicate ops.size false) a { W with drawn := W.drawn + 1 } (by simp) ?_ ?_ ?_ (fun m hm => (by cases hm))
  · simpa using this
  · obtain ⟨ρ', dom, hle', m', hdom⟩ := hinv
    have hall : appD (fun k => decide (k < ops.toList.length)) es 0 st0 = allE es st0 := appD_all es 0 st0 (fun k hk => by rw [Nat.zero_add]; simp only [decide_eq_true_eq]; omega)
    refine hQ a' W' ⟨allE es st0, ρ', hk, ⟨?_, hle'⟩, m'.same ?_ (fun t => ?_) (fun l => ?_) (fun l v hv => ?_) ?_⟩
    · refine allE_frm wr es st0 (fun e he d hd => ?_)
      obtain ⟨i, hi⟩ := List.getElem?_of_mem he
      obtain ⟨o, fe, _, _⟩ := hf i e hi
      exact hwr i o d fe.op (by rw [← fe.wr]; exact hd)
    · rw [allE_n]; rfl
    · rw [← hall]; rfl
    · rw [canon_look, hall]
    · refine (allE_dom es st0).2 ?_
      rcases hdom l (m'.dom l v hv) with h | ⟨k, e, he, _, h⟩
      · exact .inl h
      · exact .inr ⟨e, List.mem_of_getElem? he, h⟩
    · exact allE_stamp es st0 m.stamp
  · exact Nat.le_trans List.countP_le_length (by simp)
  · refine ⟨ρ0, st0.dom, ρ0.le_refl, m1.same rfl (fun t => ?_) (fun l => ?_) (fun l v hv => m.dom l v hv) (fun l he s hh => ?_), fun l hl => .inl hl⟩
    · show (appD _ es 0 st0).tm t = _
      rw [appD_none es 0 st0 (fun k => by simp only [Array.getD_eq_getD_getElem?, Array.getElem?_replicate]; split <;> rfl)]
    · rw [canon_look, appD_none es 0 st0 (fun k => by simp only [Array.getD_eq_getD_getElem?, Array.getElem?_replicate]; split <;> rfl)]
    · have : ((appD (fun k => (Array.replicate ops.size false).getD k false) es 0 st0).look l).map (fun h => (h, 0)) = some (he, s) := hh
      cases hq : (appD (fun k => (Array.replicate ops.size false).getD k false) es 0 st0).look l with
      | none => rw [hq] at this; cases this
      | some x => rw [hq] at this; cases this; exact Nat.le_refl _
  · intro k e he hd
    simp [Array.getElem?_replicate] at hd
    split at hd <;> simp at hd
end
end Go.GX
set_option linter.unusedVariables false
namespace Go.GX
variable [Inhabited BaseD]
open Go.RowKit Go.Shelf Go.Proofs

def OwnWr (st : St) (ρ : Lab) (k : Nat) : Prop := ∃ l he s v, st.hp l = some (he, s) ∧ ρ l = some v ∧ OwnB ρ he v k ∧ he.isLn = false

section
variable {P : Program} {glb : Nat → Option GV} {Bk X0 : Nat → Prop} {w0 : World} {st st' : St} {ρ ρ' : Lab} {a a' : Act} {W W' : World}

theorem Mt.rebase (m : Mt P glb Bk X0 w0 st ρ a W) : Mt P glb (fun k => k < W.heap.size ∧ ¬ OwnWr st ρ k) X0 W st ρ { a with defers := [] } W :=
  ⟨m.size, DefOK.nil, m.tms, m.hps, m.dis, m.x0, fun k hk => hk.1, .refl _ _,
    fun l he s v k h1 h2 h3 => ⟨fun hl hb => hb.2 ⟨l, he, s, v, h1, h2, h3, hl⟩, (m.nb l he s v k h1 h2 h3).2⟩, m.glb, m.dom, m.stamp⟩

theorem OwnWr.xs {k : Nat} (h : OwnWr st ρ k) {X0 : Nat → Prop} : Xs st ρ X0 k := let ⟨l, he, s, v, h1, h2, h3, _⟩ := h; .inr ⟨l, he, s, v, h1, h2, h3⟩

theorem Mt.lend (m : Mt P glb Bk X0 w0 st ρ a W) {L : Nat} (hL : memL L st.dom = false) {e : TypeId} {K : Kd} (hf : K.flat = true) (hn : 1 ≤ K.n) {xs : List K.T} {v : Value} {I : Nat → Prop} (hv : ((Kd.sl e K).sem P).val (fun k => ¬ I k) W xs v) (hI : ∀ k, I k → X0 k) :
    Mt P glb Bk (fun k => X0 k ∧ ownBlk (.ln e K xs) v ≠ some k) w0 (GX.lend st L e K xs) (ρ.put L v) a W ∧ ∀ k, Xs (GX.lend st L e K xs) (ρ.put L v) (fun k => X0 k ∧ ownBlk (.ln e K xs) v ≠ some k) k ↔ Xs st ρ X0 k := by
  have hle := m.le_put hL v
  have hhp : (GX.lend st L e K xs).hp = updf st.hp L (some (.ln e K xs, st.cnt)) := rfl
  have other : ∀ {l he s}, l ≠ L → ((GX.lend st L e K xs).hp l = some (he, s) ↔ st.hp l = some (he, s)) := by
    intro l he s hl
    rw [hhp, updf_other _ _ hl]
  have self : ∀ {he s}, (GX.lend st L e K xs).hp L = some (he, s) → he = .ln e K xs ∧ s = st.cnt := by
    intro he s h
    rw [hhp, updf_same] at h
    cases h; exact ⟨rfl, rfl⟩
  have inI : ∀ {k}, ownBlk (.ln e K xs) v = some k → I k := by
    intro k hk
    obtain ⟨A, c, rfl, _, _, h⟩ := hv
    cases xs with
    | nil => simp [ownBlk] at hk
    | cons x xs =>
      obtain ⟨ad, rfl, hx, _⟩ := h (by simp)
      simp only [ownBlk, Option.some.injEq] at hk
      subst hk
      exact Classical.byContradiction hx
  have oldB : ∀ {l he s u k}, st.hp l = some (he, s) → ρ l = some u → (OwnB (ρ.put L v) he u k ↔ OwnB ρ he u k) := by
    intro l he s u k h1 h2
    obtain ⟨u', hu', hok⟩ := m.hps l he s h1
    rw [h2] at hu'; cases hu'
    exact ⟨fun h => h.back hok hle, fun h => h.le hle⟩
  have hX : ∀ k, Xs (GX.lend st L e K xs) (ρ.put L v) (fun k => X0 k ∧ ownBlk (.ln e K xs) v ≠ some k) k ↔ Xs st ρ X0 k := by
    intro k
    constructor
    · rintro (h | ⟨l, he, s, u, h1, h2, h3⟩)
      · exact .inl h.1
      · by_cases hl : l = L
        · subst hl
          obtain ⟨rfl, _⟩ := self h1
          rw [Lab.put_same] at h2; cases h2
          exact .inl (hI k (inI (ownB_ln.1 h3)))
        · rw [Lab.put_other _ _ hl] at h2
          exact .inr ⟨l, he, s, u, (other hl).1 h1, h2, (oldB ((other hl).1 h1) h2).1 h3⟩
    · rintro (h | ⟨l, he, s, u, h1, h2, h3⟩)
      · by_cases hk : ownBlk (.ln e K xs) v = some k
        · exact .inr ⟨L, .ln e K xs, st.cnt, v, by rw [hhp, updf_same], Lab.put_same _ _ _, .inl hk⟩
        · exact .inl ⟨h, hk⟩
      · have hl : l ≠ L := by intro hh; subst hh; exact m.nolab hL he s h1
        exact .inr ⟨l, he, s, u, (other hl).2 h1, by rw [Lab.put_other _ _ hl]; exact h2, (oldB h1 h2).2 h3⟩
  have ev : Evo (Xs st ρ X0) W (Xs (GX.lend st L e K xs) (ρ.put L v) (fun k => X0 k ∧ ownBlk (.ln e K xs) v ≠ some k)) W := Evo.mono (fun k hk => m.Xlt k ((hX k).1 hk)) (fun k hk => (hX k).1 hk)
  refine ⟨⟨m.size, m.dfr, fun t => (m.tms t).mono hle ev, fun l he s h => ?_, fun l l' he he' s s' u u' k h h' h2 h2' h3 h3' => ?_, fun k hk => m.x0 k hk.1, m.bk, m.bel, fun l he s u k h h2 h3 => ?_, m.glb.evo ev, fun l u hu => ?_, fun l he s h => ?_⟩, hX⟩
  · by_cases hl : l = L
    · subst hl
      obtain ⟨rfl, _⟩ := self h
      refine ⟨v, Lab.put_same _ _ _, hf, ?_⟩
      obtain ⟨A, c, rfl, h1, h2, h3⟩ := hv
      refine ⟨A, c, rfl, h1, h2, fun hne => ?_⟩
      obtain ⟨ad, hA, _, _, hget⟩ := h3 hne
      refine ⟨ad, hA, ?_, fun j x hx => ?_⟩
      · cases xs with
        | nil => exact absurd rfl hne
        | cons x xs =>
          obtain ⟨ecs, k1, k2⟩ := hget 0 x rfl
          have hlen := Kd.cells_length P K k1
          cases ecs with
          | nil => simp at hlen; omega
          | cons u us =>
            have := cells_of_cell? (k2 0 u rfl)
            rwa [add_block] at this
      · obtain ⟨ecs, k1, k2⟩ := hget j x hx
        exact ⟨ecs, Kd.flat_cells P K hf k1, k2⟩
    · obtain ⟨u, hu, hok⟩ := m.hps l he s ((other hl).1 h)
      exact ⟨u, hle l u hu, hok.mono hle ev (fun _ _ => rfl)⟩
  · by_cases hl : l = L <;> by_cases hl' : l' = L
    · rw [hl, hl']
    · subst hl
      obtain ⟨rfl, _⟩ := self h
      rw [Lab.put_same] at h2; cases h2
      rw [Lab.put_other _ _ hl'] at h2'
      exact absurd (hI k (inI (ownB_ln.1 h3))) (m.nb l' he' s' u' k ((other hl').1 h') h2' ((oldB ((other hl').1 h') h2').1 h3')).2
    · subst hl'
      obtain ⟨rfl, _⟩ := self h'
      rw [Lab.put_same] at h2'; cases h2'
      rw [Lab.put_other _ _ hl] at h2
      exact absurd (hI k (inI (ownB_ln.1 h3'))) (m.nb l he s u k ((other hl).1 h) h2 ((oldB ((other hl).1 h) h2).1 h3)).2
    · rw [Lab.put_other _ _ hl] at h2
      rw [Lab.put_other _ _ hl'] at h2'
      exact m.dis l l' he he' s s' u u' k ((other hl).1 h) ((other hl').1 h') h2 h2' ((oldB ((other hl).1 h) h2).1 h3) ((oldB ((other hl').1 h') h2').1 h3')
  · by_cases hl : l = L
    · subst hl
      obtain ⟨rfl, _⟩ := self h
      rw [Lab.put_same] at h2; cases h2
      exact ⟨fun hh => (by cases hh), fun hx => hx.2 (ownB_ln.1 h3)⟩
    · rw [Lab.put_other _ _ hl] at h2
      have := m.nb l he s u k ((other hl).1 h) h2 ((oldB ((other hl).1 h) h2).1 h3)
      exact ⟨this.1, fun hx => this.2 hx.1⟩
  · show memL l (L :: st.dom) = true
    rw [memL_cons]
    by_cases hl : l = L
    · subst hl; simp
    · rw [Lab.put_other _ _ hl] at hu
      rw [m.dom l u hu]; simp
  · show s ≤ st.cnt
    by_cases hl : l = L
    · subst hl
      rw [(self h).2]; exact Nat.le_refl _
    · exact m.stamp l he s ((other hl).1 h)

def layTm (t : Array Value) : List Nat → List Value → Array Value
  | p :: ps, v :: vs => layTm (t.setIfInBounds p v) ps vs
  | _, _ => t

theorem flatPut_one {K : Kd} (m : Mt P glb Bk X0 w0 st ρ a W) {p : Nat} (hp : p < st.n) {x : K.T} {v : Value} {X : Nat → Prop} (hf : K.flat = true) (hv : (K.sem P).val X W x v) : Mt P glb Bk X0 w0 (st.put (some p) (mkv K x)) ρ { a with tmps := a.tmps.setIfInBounds p v } W :=
  m.put (some p) (mkv K x) v (by simpa [dstOK, Nat.blt_eq] using hp) (RepV.of_val K (Kd.flat_val P K hf hv)).1

theorem flatPut_ok {X : Nat → Prop} : ∀ (A : Kd) (st : St) (a : Act) (x : A.T) (ps : List Nat) (vs : List Value) (st1 : St), Mt P glb Bk X0 w0 st ρ a W → flatPut st A x ps = some st1 → (A.sem P).vals X W x vs → (∀ p, p ∈ ps → p < st.n) →
    Mt P glb Bk X0 w0 st1 ρ { a with tmps := layTm a.tmps ps vs } W ∧ st1.hp = st.hp ∧ st1.cnt = st.cnt ∧ st1.n = st.n ∧ st1.dom = st.dom
  | .pair A B, st, a, x, p :: r, vs, st1, m, h, hv, hp => by
    simp only [flatPut] at h
    cases hc : (A.flat && A.arg) with
    | false => rw [hc] at h; cases h
    | true =>
      rw [hc, cond_true] at h
      simp only [Bool.and_eq_true] at hc
      obtain ⟨v, vs', rfl, h1, h2⟩ := hv
      have m1 := flatPut_one m (hp p List.mem_cons_self) hc.1 h1
      obtain ⟨m2, g1, g2, g3, g4⟩ := flatPut_ok B _ _ x.2 r vs' st1 m1 h h2 (fun q hq => hp q (List.mem_cons_of_mem _ hq))
      exact ⟨m2, g1, g2, g3, g4⟩
  | .unit, st, a, x, [], vs, st1, m, h, hv, hp => by
    cases h
    exact ⟨by cases vs <;> exact m, rfl, rfl, rfl, rfl⟩
  | .int k, st, a, x, [p], vs, st1, m, h, hv, hp => by
    cases h
    obtain ⟨v, rfl, h1⟩ := hv
    exact ⟨flatPut_one (K := .int k) (X := X) m (hp p List.mem_cons_self) rfl h1, rfl, rfl, rfl, rfl⟩
  | .bool, st, a, x, [p], vs, st1, m, h, hv, hp => by
    cases h
    obtain ⟨v, rfl, h1⟩ := hv
    exact ⟨flatPut_one (K := .bool) (X := X) m (hp p List.mem_cons_self) rfl h1, rfl, rfl, rfl, rfl⟩
  | .str, st, a, x, [p], vs, st1, m, h, hv, hp => by
    cases h
    obtain ⟨v, rfl, h1⟩ := hv
    exact ⟨flatPut_one (K := .str) (X := X) m (hp p List.mem_cons_self) rfl h1, rfl, rfl, rfl, rfl⟩
  | .agg K, st, a, x, [p], vs, st1, m, h, hv, hp => by
    simp only [flatPut] at h
    cases hc : K.flat with
    | false => rw [hc] at h; cases h
    | true =>
      rw [hc, cond_true] at h
      cases h
      obtain ⟨cs, rfl, h1⟩ := hv
      exact ⟨flatPut_one (K := .agg K) (X := X) m (hp p List.mem_cons_self) hc ⟨cs, rfl, h1⟩, rfl, rfl, rfl, rfl⟩

theorem round_ok (m : Mt P glb Bk X0 w0 st ρ a W) {L : Nat} (hL : memL L st.dom = false) {I : Nat → Prop} (hI : ∀ k, I k → X0 k) {A : Kd} {x : A.T} {ps : List Nat} {vs : List Value} {st1 : St} (h : roundSt st L A x ps = some st1) (hv : (A.sem P).vals (fun k => ¬ I k) W x vs) (hp : ∀ p, p ∈ ps → p < st.n) :
    ∃ ρ1 X1, ρ.le ρ1 ∧ Mt P glb Bk X1 w0 st1 ρ1 { a with tmps := layTm a.tmps ps vs } W ∧ (∀ l, l ≠ L → st1.hp l = st.hp l) ∧ st1.cnt = st.cnt ∧ st1.n = st.n ∧ (∀ k, Xs st1 ρ1 X1 k ↔ Xs st ρ X0 k) ∧
      ((X1 = X0 ∧ st1.hp L = none) ∨ ∃ he v, st1.hp L = some (he, st.cnt) ∧ he.isLn = true ∧ ρ1 L = some v ∧ X1 = fun k => X0 k ∧ ownBlk he v ≠ some k) := by
  have hno : st.hp L = none := by
    cases hq : st.hp L with
    | none => rfl
    | some p => exact absurd hq (m.nolab hL p.1 p.2)
  unfold roundSt at h
  split at h
  · rename_i e K x p
    cases hc : (K.flat && Nat.ble 1 K.n) with
    | false => rw [hc] at h; cases h
    | true =>
      rw [hc, cond_true] at h
      simp only [Bool.and_eq_true] at hc
      cases h
      obtain ⟨v, rfl, h1⟩ := hv
      obtain ⟨m1, hX⟩ := m.lend hL (e := e) hc.1 (Nat.le_of_ble_eq_true hc.2) h1 hI
      have hsl : ∃ A n c, v = .slice A n c := by obtain ⟨A, c, hh, _⟩ := h1; exact ⟨_, _, _, hh⟩
      refine ⟨ρ.put L v, _, m.le_put hL v, m1.put (some p) (.mk false [.own L]) v (by simpa [dstOK, Nat.blt_eq, GX.lend] using hp p List.mem_cons_self) ⟨_, rfl, Lab.put_same _ _ _, hsl⟩, fun l hl => updf_other _ _ hl, rfl, rfl, hX, .inr ⟨.ln e K x, v, updf_same _ _ _, rfl, Lab.put_same _ _ _, rfl⟩⟩
  · obtain ⟨m1, g1, g2, g3, g4⟩ := flatPut_ok _ st a x ps vs st1 m h hv hp
    refine ⟨ρ, X0, ρ.le_refl, m1, fun l _ => by rw [g1], g2, g3, fun k => ?_, .inl ⟨rfl, by rw [g1]; exact hno⟩⟩
    unfold Xs
    rw [g1]

theorem Mt.putLoop (m : Mt P glb Bk X0 w0 st ρ a W) {l : Nat} {r : Loop} (hl : W.heap[l]? = some (.loop r)) (hB : ¬ Bk l) (o : Obj) : Mt P glb Bk X0 w0 st ρ a (W.putObj l o) := by
  have hk : ∀ k, k ≠ l → (W.putObj l o).heap[k]? = W.heap[k]? := fun k h => World.putObj_heap_other h
  have hmm : ∀ mm xs, GoodAt W mm xs → GoodAt (W.putObj l o) mm xs := fun mm xs hg => GoodAt.keep hg fun k hk' => hk k (by rintro rfl; obtain ⟨_, _, hc⟩ := hk'; rw [hl] at hc; cases hc)
  have ev : Evo (Xs st ρ X0) W (Xs st ρ X0) (W.putObj l o) :=
    ⟨by simp, fun k hc _ => hk k (by rintro rfl; obtain ⟨_, _, _, hc⟩ := hc; rw [hl] at hc; cases hc), fun _ h _ => h, fun k h => by simpa using m.Xlt k h, fun mm xs hp hg => hmm mm xs hg⟩
  refine ⟨m.size, m.dfr.keep (fun D hD => hk D (by rintro rfl; rw [hl] at hD; cases hD)), fun t => (m.tms t).mono ρ.le_refl ev, fun l' he s h => ?_, m.dis, fun k h => by simpa using m.x0 k h, m.bk,
    m.bel.trans ⟨rfl, rfl, rfl, by simp, fun k hB' _ => hk k (by rintro rfl; exact hB hB'), fun mm xs _ hg => hmm mm xs hg⟩, m.nb, m.glb.evo ev, m.dom, m.stamp⟩
  obtain ⟨v, hv, hok⟩ := m.hps l' he s h
  refine ⟨v, hv, hok.mono ρ.le_refl ev (fun k hk' => hk k ?_)⟩
  rintro rfl
  obtain ⟨cs, t, fr, hc⟩ := hok.cells hk'
  rw [hl] at hc; cases hc

theorem Mt.reguard {Bk' : Nat → Prop} {w0' : World} (m : Mt P glb Bk X0 w0 st ρ a W) (hbk : ∀ k, Bk' k → k < w0'.heap.size) (hbel : Bel Bk' w0' W)
    (hnb : ∀ l he s v k, st.hp l = some (he, s) → ρ l = some v → OwnB ρ he v k → he.isLn = false → ¬ Bk' k) (hd : DefOK Bk' W a.defers) : Mt P glb Bk' X0 w0' st ρ a W :=
  ⟨m.size, hd, m.tms, m.hps, m.dis, m.x0, hbk, hbel, fun l he s v k h1 h2 h3 => ⟨fun hl => hnb l he s v k h1 h2 h3 hl, (m.nb l he s v k h1 h2 h3).2⟩, m.glb, m.dom, m.stamp⟩

theorem DefOK.noBk {Bk Bk' : Nat → Prop} {ds : List Deferred} (h : DefOK Bk W ds) (hk : ∀ k, Bk' k → Bk k) : DefOK Bk' W ds :=
  let ⟨Ds, h1, h2, h3⟩ := h
  ⟨Ds, h1, h2, fun D hD => ⟨(h3 D hD).1, fun hb => (h3 D hD).2 (hk D hb)⟩⟩

theorem Mt.struck {X1 : Nat → Prop} {L : Nat} (m : Mt P glb Bk X1 w0 st ρ a W) (hX : ∀ k, Xs (strike st L) ρ X0 k → Xs st ρ X1 k) (hnb : ∀ l he s v k, l ≠ L → st.hp l = some (he, s) → ρ l = some v → OwnB ρ he v k → ¬ X0 k) (hX0 : ∀ k, X0 k → k < W.heap.size) :
    Mt P glb Bk X0 w0 (strike st L) ρ a W := by
  have hhp : (strike st L).hp = updf st.hp L none := rfl
  have other : ∀ {l he s}, (strike st L).hp l = some (he, s) → l ≠ L ∧ st.hp l = some (he, s) := by
    intro l he s h
    by_cases hl : l = L
    · subst hl; rw [hhp, updf_same] at h; cases h
    · rw [hhp, updf_other _ _ hl] at h; exact ⟨hl, h⟩
  have ev := Evo.mono (W := W) (fun k hk => m.Xlt k (hX k hk)) hX
  refine ⟨m.size, m.dfr, fun t => (m.tms t).mono ρ.le_refl ev, fun l he s h => ?_, fun l l' he he' s s' u u' k h h' => m.dis l l' he he' s s' u u' k (other h).2 (other h').2, hX0, m.bk, m.bel, fun l he s u k h h2 h3 => ?_, m.glb.evo ev, m.dom, fun l he s h => m.stamp l he s (other h).2⟩
  · obtain ⟨u, hu, hok⟩ := m.hps l he s (other h).2
    exact ⟨u, hu, hok.mono ρ.le_refl ev (fun _ _ => rfl)⟩
  · obtain ⟨hl, h1⟩ := other h
    exact ⟨(m.nb l he s u k h1 h2 h3).1, hnb l he s u k hl h1 h2 h3⟩

theorem Mt.retm {tm' : Nat → SV} {tmps' : Array Value} (m : Mt P glb Bk X0 w0 st ρ a W) (hn : tmps'.size = st.n) (h : ∀ t, RepV P ρ (Xs st ρ X0) W (tm' t) (tmps'.getD t undef)) {ds : List Deferred} (hd : DefOK Bk W ds) :
    Mt P glb Bk X0 w0 { st with tm := tm' } ρ { tmps := tmps', defers := ds } W :=
  ⟨hn, hd, h, m.hps, m.dis, m.x0, m.bk, m.bel, m.nb, m.glb, m.dom, m.stamp⟩

theorem Mt.freeX {X1 : Nat → Prop} (m : Mt P glb Bk X1 w0 st ρ a W) (h : ∀ k, X0 k → X1 k) : Mt P glb Bk X0 w0 st ρ a W := by
  have hX : ∀ k, Xs st ρ X0 k → Xs st ρ X1 k := by
    rintro k (hk | hk)
    · exact .inl (h k hk)
    · exact .inr hk
  have ev := Evo.mono (W := W) (fun k hk => m.Xlt k (hX k hk)) hX
  refine ⟨m.size, m.dfr, fun t => (m.tms t).mono ρ.le_refl ev, fun l he s hl => ?_, m.dis, fun k hk => m.x0 k (h k hk), m.bk, m.bel, fun l he s v k h1 h2 h3 => ⟨(m.nb l he s v k h1 h2 h3).1, fun hx => (m.nb l he s v k h1 h2 h3).2 (h k hx)⟩, m.glb.evo ev, m.dom, m.stamp⟩
  obtain ⟨u, hu, hok⟩ := m.hps l he s hl
  exact ⟨u, hu, hok.mono ρ.le_refl ev (fun _ _ => rfl)⟩

theorem Mt.turned {I I' : Nat → Prop} {B : Nat} (m : Mt P glb Bk (fun k => X0 k ∨ I k) w0 st ρ a W) (ht : Turned I W I' W') (hI : ∀ k, I k → B ≤ k) (hB : ∀ k, Bk k → k < B) (hd : DefOK Bk W' a.defers) :
    Mt P glb Bk (fun k => X0 k ∨ I' k) w0 st ρ a W' ∧ Evo (Xs st ρ (fun k => X0 k ∨ I k)) W (Xs st ρ (fun k => X0 k ∨ I' k)) W' := by
  have own : ∀ {l he s v k}, st.hp l = some (he, s) → ρ l = some v → OwnB ρ he v k → k < W.heap.size ∧ ¬ I k := by
    intro l he s v k h1 h2 h3
    obtain ⟨v', hv', hok⟩ := m.hps l he s h1
    rw [h2] at hv'; cases hv'
    exact ⟨(hok.lt h3).2, fun hi => (m.nb l he s v k h1 h2 h3).2 (.inr hi)⟩
  have hx0 : ∀ k, X0 k ∨ I' k → k < W'.heap.size := by
    rintro k (h | h)
    · exact Nat.lt_of_lt_of_le (m.x0 k (.inl h)) ht.size
    · rcases ht.new k h with h | h
      · exact Nat.lt_of_lt_of_le (m.x0 k (.inr h)) ht.size
      · exact h.2
  have ev : Evo (Xs st ρ (fun k => X0 k ∨ I k)) W (Xs st ρ (fun k => X0 k ∨ I' k)) W' := by
    refine ⟨ht.size, fun k hc hx => ?_, fun k hk hlt => ?_, fun k hk => ?_, fun mm xs hp hg => ht.memo mm xs (hp.mono fun k hx _ hi => hx (.inl (.inr hi))) hg⟩
    · have hnm := noMap_cells hc
      obtain ⟨_, _, _, hc⟩ := hc
      exact ht.keep k (Array.getElem?_eq_some_iff.1 hc).1 (fun hi => hx (.inl (.inr hi))) hnm
    · rcases hk with (hk | hk) | hk
      · exact .inl (.inl hk)
      · rcases ht.new k hk with h | h
        · exact .inl (.inr h)
        · omega
      · exact .inr hk
    · rcases hk with hk | ⟨l, he, s, v, h1, h2, h3⟩
      · exact hx0 k hk
      · exact Nat.lt_of_lt_of_le (own h1 h2 h3).1 ht.size
  refine ⟨⟨m.size, hd, fun t => (m.tms t).mono ρ.le_refl ev, fun l he s hl => ?_, m.dis, hx0, m.bk, m.bel.trans ⟨ht.os, ht.tape, ht.output, ht.size, fun k hk hn => ht.keep k (Nat.lt_of_lt_of_le (m.bk k hk) m.bel.size) (fun hi => ?_) hn, fun mm xs hp hg => ht.memo mm xs (hp.mono fun k hx _ hi => hx fun hb => ?_) hg⟩, fun l he s v k h1 h2 h3 => ⟨(m.nb l he s v k h1 h2 h3).1, fun hx => ?_⟩, m.glb.evo ev, m.dom, m.stamp⟩, ev⟩
  · obtain ⟨u, hu, hok⟩ := m.hps l he s hl
    refine ⟨u, hu, hok.mono ρ.le_refl ev (fun k hk => ?_)⟩
    obtain ⟨h1, h2⟩ := own hl hu hk
    obtain ⟨u', hu', hok'⟩ := m.hps l he s hl
    exact ht.keep k h1 h2 (fun _ es c hc => (m.notMap hl hu hk ⟨es, c, hc⟩).elim)
  · have := hI k hi
    have := hB k hk
    omega
  · have := hI k hi
    have := hB k hb
    omega
  · rcases hx with hx | hx
    · exact (m.nb l he s v k h1 h2 h3).2 (.inl hx)
    · obtain ⟨g1, g2⟩ := own h1 h2 h3
      rcases ht.new k hx with h | h
      · exact g2 h
      · omega

theorem foldl_layTm : ∀ (ps : List Nat) (vs : List Value) (t : Array Value), (ps.zip vs).foldl (fun tmps (p : Nat × Value) => tmps.setIfInBounds p.1 p.2) t = layTm t ps vs
  | [], _, _ => by simp [layTm]
  | p :: ps, [], _ => by simp [layTm]
  | p :: ps, v :: vs, t => by rw [List.zip_cons_cons, List.foldl_cons, foldl_layTm ps vs, layTm]

theorem flatPut_len {X : Nat → Prop} : ∀ (A : Kd) (st : St) (x : A.T) (ps : List Nat) (vs : List Value) (st1 : St), flatPut st A x ps = some st1 → (A.sem P).vals X W x vs → vs.length = ps.length
  | .pair A B, st, x, [], vs, st1, h, hv => by cases h
  | .pair A B, st, x, p :: r, vs, st1, h, hv => by
    simp only [flatPut] at h
    cases hc : (A.flat && A.arg) with
    | false => rw [hc] at h; cases h
    | true =>
      rw [hc, cond_true] at h
      obtain ⟨v, vs', rfl, h1, h2⟩ := hv
      simp [flatPut_len B _ x.2 r vs' st1 h h2]
  | .unit, st, x, [], vs, st1, h, hv => by rw [show vs = [] from hv]; rfl
  | .unit, st, x, p :: r, vs, st1, h, hv => by cases h
  | .int k, st, x, ps, vs, st1, h, hv => by
    obtain ⟨v, rfl, _⟩ := hv
    match ps, h with
    | [p], h => rfl
  | .bool, st, x, ps, vs, st1, h, hv => by
    obtain ⟨v, rfl, _⟩ := hv
    match ps, h with
    | [p], h => rfl
  | .str, st, x, ps, vs, st1, h, hv => by
    obtain ⟨v, rfl, _⟩ := hv
    match ps, h with
    | [p], h => rfl
  | .agg K, st, x, ps, vs, st1, h, hv => by
    obtain ⟨v, rfl, _⟩ := hv
    match ps, h with
    | [p], h => rfl
  | .sl _ _, st, x, ps, vs, st1, h, hv => by simp [flatPut] at h
  | .nsl _ _, st, x, ps, vs, st1, h, hv => by simp [flatPut] at h
  | .fn _ _, st, x, ps, vs, st1, h, hv => by simp [flatPut] at h
  | .ptr _ _, st, x, ps, vs, st1, h, hv => by simp [flatPut] at h
  | .seq _, st, x, ps, vs, st1, h, hv => by simp [flatPut] at h
  | .mem _, st, x, ps, vs, st1, h, hv => by simp [flatPut] at h

theorem roundSt_len {X : Nat → Prop} {L : Nat} {A : Kd} {x : A.T} {ps : List Nat} {vs : List Value} {st1 : St} (h : roundSt st L A x ps = some st1) (hv : (A.sem P).vals X W x vs) : vs.length = ps.length := by
  unfold roundSt at h
  split at h
  · obtain ⟨v, rfl, _⟩ := hv; rfl
  · exact flatPut_len A st x ps vs st1 h hv
end
end Go.GX
set_option linter.unusedVariables false
namespace Go.GX
variable [Inhabited BaseD]
open Go.RowKit Go.Shelf Go.Proofs

theorem ancRecs_length : ∀ (l : List Oper) (rs : List Rec), (ancRecs l rs).length = rs.length + l.length
  | [], rs => rfl
  | o :: r, rs => by rw [ancRecs, ancRecs_length r]; simp; omega

theorem ancRecs_pre : ∀ (l : List Oper) (rs : List Rec) (k : Nat), k < rs.length → (ancRecs l rs)[k]? = rs[k]?
  | [], rs, k, h => rfl
  | o :: r, rs, k, h => by rw [ancRecs, ancRecs_pre r _ k (by simp; omega), List.getElem?_append_left h]

theorem ancRecs_at (l : List Oper) : ∀ (rs : List Rec) (j : Nat) (o : Oper), l[j]? = some o → ∃ rs', (ancRecs l rs)[rs.length + j]? = some ⟨ancOf rs' o, [], none, [], []⟩ ∧ rs'.length = rs.length + j ∧ ∀ k, k < rs.length + j → rs'[k]? = (ancRecs l rs)[k]? := by
  induction l with
  | nil => intro rs j o h; simp at h
  | cons o r ih =>
    intro rs j o' h
    cases j with
    | zero =>
      simp only [List.getElem?_cons_zero, Option.some.injEq] at h
      subst h
      refine ⟨rs, ?_, rfl, fun k hk => ?_⟩
      · rw [ancRecs, ancRecs_pre r _ _ (by simp), Nat.add_zero, List.getElem?_append_right (Nat.le_refl _)]
        simp
      · rw [ancRecs, ancRecs_pre r _ _ (by simp; omega), List.getElem?_append_left (by omega)]
    | succ j =>
      obtain ⟨rs', h1, h2, h3⟩ := ih (rs ++ [⟨ancOf rs o, [], none, [], []⟩]) j o' (by simpa using h)
      have e : (rs ++ [(⟨ancOf rs o, [], none, [], []⟩ : Rec)]).length + j = rs.length + (j + 1) := by simp; omega
      rw [e] at h1 h2 h3
      exact ⟨rs', by rw [ancRecs]; exact h1, h2, fun k hk => by rw [ancRecs]; exact h3 k hk⟩

theorem edgesAll_spec (l : List Oper) : ∀ (i : Nat), edgesAll i l = true → ∀ j o, l[j]? = some o → edgesOK (i + j) o = true := by
  induction l with
  | nil => intro i h j o ho; simp at ho
  | cons o r ih =>
    intro i h j o' ho
    simp only [edgesAll, Bool.and_eq_true] at h
    cases j with
    | zero =>
      simp only [List.getElem?_cons_zero, Option.some.injEq] at ho
      subst ho
      exact h.1
    | succ j =>
      have := ih (i + 1) h.2 j o' (by simpa using ho)
      rwa [show i + 1 + j = i + (j + 1) by omega] at this

def ClosedE (all : List Oper) (D : Nat → Bool) : Prop := ∀ k o, all[k]? = some o → D k = true → ∀ e, e ∈ o.after.toList → Region.binds .any e = true → D e.on = true

theorem ancRecs_closed {all : List Oper} {D : Nat → Bool} (hc : ClosedE all D) : ∀ (k : Nat) (x : Rec), (ancRecs all [])[k]? = some x → D k = true → ∀ i, Nat.testBit x.anc i = true → D i = true := by
  intro k
  induction k using Nat.strongRecOn with
  | _ k ih =>
    intro x hx hk i hi
    have hlt : k < all.length := by have := (List.getElem?_eq_some_iff.1 hx).1; rwa [ancRecs_length, List.length_nil, Nat.zero_add] at this
    obtain ⟨rs', h1, h2, h3⟩ := ancRecs_at all [] k all[k] (List.getElem?_eq_getElem hlt)
    simp only [List.length_nil, Nat.zero_add] at h1 h2 h3
    rw [hx] at h1; cases h1
    obtain ⟨e, he, hb, hcase⟩ := ancOf_spec hi
    have hon := hc k _ (List.getElem?_eq_getElem hlt) hk e he hb
    rcases hcase with rfl | ⟨y, hy, hyi⟩
    · exact hon
    · have hel : e.on < k := by rw [← h2]; exact (List.getElem?_eq_some_iff.1 hy).1
      exact ih e.on hel y (by rw [← h3 _ hel]; exact hy) hon i hyi

section
variable {P : Program} {glb : Nat → Option GV} {Bk X0 : Nat → Prop} {w0 : World} {st0 : St} {ρ0 : Lab} {S : Stat} {lab : Nat} {F : Fence} {n : Nat} {all : List Oper} {es : List Ef} {lk : Option Nat}

theorem getD_tf (listed : Array Bool) (k : Nat) (hk : k < listed.size) : listed.getD k true = listed.getD k false := by simp [Array.getElem?_eq_getElem hk]

theorem ready_lt {listed : Array Bool} {i : Nat} (hi : i ∈ Region.ready .any all.toArray listed) : ∃ o, all[i]? = some o ∧ i < all.length ∧ listed.getD i true = false ∧ ∀ e, e ∈ o.after.toList → Region.binds .any e = true → listed.getD e.on false = true := by
  obtain ⟨h1, o, h2, h3⟩ := mem_ready.1 hi
  have h2 : all[i]? = some o := by simpa using h2
  exact ⟨o, h2, (List.getElem?_eq_some_iff.1 h2).1, h1, fun e he hb => h3 e (by simpa using he) hb⟩

theorem pivot_spec {m : Nat} (h : pivotB m all = true) : edgesAll 0 all = true ∧ (∃ x, (ancRecs all [])[m]? = some x ∧ x.anc = 2 ^ m - 1) ∧ ∀ k x, m < k → (ancRecs all [])[k]? = some x → Nat.testBit x.anc m = true := by
  unfold pivotB at h
  simp only [Bool.and_eq_true] at h
  obtain ⟨⟨h1, h2⟩, h3⟩ := h
  refine ⟨h1, ?_, ?_⟩
  · split at h2
    · rename_i x hx
      exact ⟨x, hx, Nat.eq_of_beq_eq_true h2⟩
    · cases h2
  · have : ∀ (l : List Rec) (i : Nat), hasBit m i l = true → ∀ k x, l[k]? = some x → m < i + k → Nat.testBit x.anc m = true := by
      intro l
      induction l with
      | nil => intro i _ k x hx; simp at hx
      | cons y r ih =>
        intro i hb k x hx hk
        simp only [hasBit, Bool.and_eq_true, Bool.or_eq_true] at hb
        cases k with
        | zero =>
          simp only [List.getElem?_cons_zero, Option.some.injEq] at hx
          subst hx
          rcases hb.1 with h | h
          · have := Nat.le_of_ble_eq_true h; omega
          · exact h
        | succ k => exact ih (i + 1) hb.2 k x (by simpa using hx) (by omega)
    intro k x hk hx
    exact this _ 0 h3 k x hx (by omega)

theorem anc_ready {D : Nat → Bool} (hc : ClosedE all D) {i : Nat} {o : Oper} (ho : all[i]? = some o) (hr : ∀ e, e ∈ o.after.toList → Region.binds .any e = true → D e.on = true) {x : Rec} (hx : (ancRecs all [])[i]? = some x) : ∀ j, Nat.testBit x.anc j = true → D j = true := by
  intro j hj
  obtain ⟨rs', h1, h2, h3⟩ := ancRecs_at all [] i o ho
  simp only [List.length_nil, Nat.zero_add] at h1 h2 h3
  rw [hx] at h1; cases h1
  obtain ⟨e, he, hbd, hcase⟩ := ancOf_spec hj
  have hon := hr e he hbd
  rcases hcase with rfl | ⟨y, hy, hyi⟩
  · exact hon
  · have hel : e.on < i := by rw [← h2]; exact (List.getElem?_eq_some_iff.1 hy).1
    exact ancRecs_closed hc e.on y (by rw [← h3 _ hel]; exact hy) hon j hyi

theorem any_pre (hF : Wide F P) (hS : StatOK P S) (hct : CtOK P glb S) (hg : S.glb = glb) {m : Nat} (hf : Facts S all lab none st0 es) (hlen : es.length = m) (hm : m < all.length) (hpiv : pivotB m all = true) {Q : Exit → Act → World → Prop}
    (hQ : ∀ (fuel : Nat) (listed : Array Bool) a W, listed.size = all.length → (∀ k, listed.getD k false = decide (k < m)) → (List.range all.length).countP (fun k => !listed.getD k false) ≤ fuel → ClosedE all (fun k => listed.getD k false) → InvD P glb Bk X0 w0 es st0 ρ0 (fun k => decide (k < m)) a W → wpAnyIn F n P .any all.toArray Q fuel listed a W) : ∀ (fuel : Nat) (listed : Array Bool) (a : Act) (W : World), listed.size = all.length → (∀ k, k < all.length → m ≤ k → listed.getD k false = false) →
    (List.range all.length).countP (fun k => !listed.getD k false) ≤ fuel → InvD P glb Bk X0 w0 es st0 ρ0 (fun k => listed.getD k false) a W → Closed es (fun k => listed.getD k false) → ClosedE all (fun k => listed.getD k false) → wpAnyIn F n P .any all.toArray Q fuel listed a W := by
  obtain ⟨hfe, ⟨xm, hxm, hxa⟩, hbit⟩ := pivot_spec hpiv
  have lis : ∀ (listed : Array Bool), listed.size = all.length → (∀ k, k < all.length → m ≤ k → listed.getD k false = false) → (∀ k, k < m → listed.getD k false = true) → ∀ k, listed.getD k false = decide (k < m) := by
    intro listed hsz h1 h2 k
    by_cases hk : k < m
    · rw [h2 k hk]; simp [hk]
    · by_cases hkl : k < all.length
      · rw [h1 k hkl (by omega)]; simp [hk]
      · simp [hk, Array.getElem?_eq_none (by omega : listed.size ≤ k)]
  intro fuel
  induction fuel with
  | zero =>
    intro listed a W hsz hlo hcount hinv hcl hce
    exfalso
    have h0 : (List.range all.length).countP (fun k => !listed.getD k false) = 0 := by omega
    have := List.countP_eq_zero.1 h0 m (List.mem_range.2 hm)
    rw [hlo m hm (Nat.le_refl _)] at this
    simp at this
  | succ fuel ih =>
    intro listed a W hsz hlo hcount hinv hcl hce
    by_cases hdone : ∀ k, k < m → listed.getD k false = true
    · have hlis := lis listed hsz hlo hdone
      have e : (fun k => listed.getD k false) = fun k => decide (k < m) := funext hlis
      exact hQ _ listed a W hsz hlis hcount hce (by rwa [e] at hinv)
    · have hex : ∃ k, k < m ∧ listed.getD k false = false := by
        refine Classical.byContradiction fun hno => hdone fun k hk => ?_
        cases hq : listed.getD k false with
        | true => rfl
        | false => exact absurd ⟨k, hk, hq⟩ hno
      obtain ⟨k0, hk0, hk1⟩ := hex
      refine ⟨fun hr => ?_, fun i hi => ?_⟩
      · exfalso
        have : ∀ k, k < m → listed.getD k false = true := by
          intro k
          induction k using Nat.strongRecOn with
          | _ k ihk =>
            intro hk
            cases hd : listed.getD k false with
            | true => rfl
            | false =>
              exfalso
              have hek : all[k]? = some all[k] := List.getElem?_eq_getElem (by omega)
              have : k ∈ Region.ready .any all.toArray listed := by
                refine mem_ready.2 ⟨by rw [getD_tf listed k (by omega)]; exact hd, all[k], by simp, fun ed hed hb => ?_⟩
                have hedge := edgesAll_spec all 0 hfe k _ hek
                simp only [edgesOK, List.all_eq_true] at hedge
                have := hedge ed (by simpa using hed)
                rw [hb] at this
                have hlt : ed.on < k := by simpa [Nat.blt_eq] using this
                exact ihk ed.on hlt (by omega)
              rw [hr] at this
              simp at this
        rw [this k0 hk0] at hk1; cases hk1
      · obtain ⟨o, h2, hlt, h1, h3⟩ := ready_lt hi
        have him : i < m := by
          rcases Nat.lt_trichotomy i m with h | h | h
          · exact h
          · subst h
            have := anc_ready hce h2 h3 hxm k0 (by rw [hxa, Nat.testBit_two_pow_sub_one]; simpa using hk0)
            rw [hk1] at this; cases this
          · have hxi : i < (ancRecs all []).length := by rw [ancRecs_length]; simpa using hlt
            have := anc_ready hce h2 h3 (List.getElem?_eq_getElem hxi) m (hbit i _ h (List.getElem?_eq_getElem hxi))
            rw [hlo m hm (Nat.le_refl _)] at this; cases this
        have hd : listed.getD i false = false := by rw [← getD_tf listed i (by omega)]; exact h1
        have hset : (listed.setIfInBounds i true).getD i false = true := by simp [hsz, hlt]
        refine any_step hF hS hct hg hf (by omega) hcl (i := i) (D' := fun k => (listed.setIfInBounds i true).getD k false) (List.getElem?_eq_getElem (by omega)) h2 (fun hh => by cases hh) hd h3 hset (fun k hk => getD_set_ne false (Ne.symm hk)) (fun a' W' hinv' hcl' => ?_) hinv
        refine ih _ a' W' (by simpa using hsz) (fun k hk hmk => by rw [getD_set_ne false (by omega : i ≠ k)]; exact hlo k hk hmk) ?_ hinv' hcl' ?_
        · have hlt2 : (List.range all.length).countP (fun k => !(listed.setIfInBounds i true).getD k false) < (List.range all.length).countP (fun k => !listed.getD k false) := by
            refine countP_lt (fun x hx => ?_) _ i (List.mem_range.2 hlt) (by rw [hd]; rfl) (by rw [hset]; rfl)
            cases hq : listed.getD x false with
            | false => rfl
            | true => rw [getD_set_true hq] at hx; cases hx
          omega
        · intro k ok hk hdk e he hb
          by_cases hki : k = i
          · subst hki
            rw [h2] at hk; cases hk
            exact getD_set_true (h3 e he hb)
          · have hdk' : listed.getD k false = true := by
              have := getD_set_ne (listed := listed) false (Ne.symm hki)
              rw [← this]; exact hdk
            exact getD_set_true (hce k ok hk hdk' e he hb)

theorem appD_pre {m : Nat} (l2 : List Ef) : ∀ (l1 : List Ef) (q : Nat) (st : St), l1.length + q = m → appD (fun k => decide (k < m)) (l1 ++ l2) q st = allE l1 st
  | [], q, st, h => by
    simp only [List.nil_append]
    have : ∀ (l : List Ef) (p : Nat) (st : St), m ≤ p → appD (fun k => decide (k < m)) l p st = st := by
      intro l
      induction l with
      | nil => intro p st _; rfl
      | cons e r ih => intro p st hp; simp only [appD]; rw [show decide (p < m) = false by simp; omega, cond_false]; exact ih _ _ (by omega)
    exact this l2 q st (by simp at h; omega)
  | e :: r, q, st, h => by
    simp only [List.cons_append, appD]
    simp only [List.length_cons] at h
    rw [show decide (q < m) = true by simp; omega, cond_true]
    exact appD_pre l2 r (q + 1) _ (by omega)

theorem vcLook_ok (hF : Wide F P) (hS : StatOK P S) (hct : CtOK P glb S) (hg : S.glb = glb) (id : Nat) (ops : Array Oper) (lab m : Nat) (K : St → Prop) (Q : Exit → Act → World → Prop) (wr : List Nat)
    (hwr : ∀ (j : Nat) o d, ops.toList[j]? = some o → o.dst = some d → d ∈ wr) {a : Act} {W : World} (mt : Mt P glb Bk X0 w0 st0 ρ0 a W) (hpiv : pivotB m ops.toList = true) (h : vcLook S ops.toList lab m st0 K)
    (hQ : ∀ a W, PostR P glb Bk X0 w0 st0 ρ0 wr K a W → Q .normal a W) : (Code.region id ops true).wpIn F n P Q a W := by
  obtain ⟨hfe, ⟨xm, hxm, hxa⟩, hbit⟩ := pivot_spec hpiv
  have hmlt : m < ops.toList.length := by
    have := (List.getElem?_eq_some_iff.1 hxm).1
    rwa [ancRecs_length, List.length_nil, Nat.zero_add] at this
  unfold vcLook at h
  obtain ⟨es, hlen, hf, hk⟩ := text_runR S ops.toList lab none _ st0 (ops.toList.take m) 0 [] st0 rfl (fun j x hx => by
      rw [Nat.zero_add]
      rw [List.getElem?_take] at hx
      split at hx
      · exact hx
      · cases hx) (fun i e he => by simp at he) rfl h
  rw [Nat.zero_add, List.length_take, Nat.min_eq_left (Nat.le_of_lt hmlt)] at hlen
  have hom : ops.toList[m]? = some ops.toList[m] := List.getElem?_eq_getElem hmlt
  rw [hom] at hk
  obtain ⟨hc, hsem⟩ := chk_iff.1 hk
  simp only [Bool.and_eq_true, Option.isNone_iff_eq_none] at hc
  obtain ⟨⟨⟨hgd, hnew⟩, hdst⟩, hap⟩ := hc
  refine wpIn_region_any hS.mixed ?_
  have m1 : Mt P glb Bk X0 w0 st0 ρ0 a { W with drawn := W.drawn + 1 } := mt.below ⟨rfl, rfl, rfl, Nat.le_refl _, fun _ _ => rfl⟩
  have noD : ∀ k, (Array.replicate ops.size false).getD k false = false := fun k => by simp only [Array.getD_eq_getD_getElem?, Array.getElem?_replicate]; split <;> rfl
  have hsize : ops.size = ops.toList.length := by simp
  have := any_pre (Bk := Bk) (X0 := X0) (w0 := w0) (ρ0 := ρ0) (n := n) hF hS hct hg hf hlen hmlt hpiv (Q := Q) (fun fuel listed a' W' hsz hlis hcnt hce hinv => ?_) ops.size (Array.replicate ops.size false) a { W with drawn := W.drawn + 1 } (by simp) (fun k _ _ => noD k) ?_ ?_ ?_ ?_
  · simpa using this
  ·
    obtain ⟨ρ', dom, hle', m', hdom⟩ := hinv
    have hall : appD (fun k => decide (k < m)) es 0 st0 = allE es st0 := appD_all es 0 st0 (fun k hk => by rw [Nat.zero_add]; simp only [decide_eq_true_eq]; omega)
    have hnewd : freshL (lab + m) dom = true := by
      refine freshL_mono (d := []) (fun l hl => .inr ?_) rfl
      rcases hdom l hl with h1 | ⟨k, e, he, _, h1⟩
      · exact ⟨_, freshL_mono (fun l hl => .inl ((allE_dom es st0).2 (.inl hl))) hnew, h1⟩
      · exact ⟨_, freshL_mono (fun l hl => .inl ((allE_dom es st0).2 (.inr ⟨e, List.mem_of_getElem? he, hl⟩))) hnew, h1⟩
    cases fuel with
    | zero =>
      exfalso
      have h0 := List.countP_eq_zero.1 (Nat.le_zero.1 hcnt) m (List.mem_range.2 hmlt)
      rw [hlis m] at h0
      simp at h0
    | succ fuel =>
    have hready : m ∈ Region.ready .any ops.toList.toArray listed := by
      refine mem_ready.2 ⟨by rw [getD_tf listed m (by omega), hlis]; simp, ops.toList[m], by simp, fun e he hb => ?_⟩
      have hedge := edgesAll_spec ops.toList 0 hfe m _ hom
      simp only [edgesOK, List.all_eq_true] at hedge
      have := hedge e (by simpa using he)
      rw [hb] at this
      have hlt2 : e.on < m := by simpa [Nat.blt_eq] using this
      rw [hlis]; simpa using hlt2
    refine ⟨fun hr => (by rw [hr] at hready; cases hready), fun i hi => ?_⟩
    obtain ⟨o, h2, hlt, h1, h3⟩ := ready_lt hi
    have him : i = m := by
      rcases Nat.lt_trichotomy i m with h | h | h
      · rw [getD_tf listed i (by omega), hlis] at h1
        simp at h1; omega
      · exact h
      · have hxi : i < (ancRecs ops.toList []).length := by rw [ancRecs_length]; simpa using hlt
        have := anc_ready hce h2 h3 (List.getElem?_eq_getElem hxi) m (hbit i _ h (List.getElem?_eq_getElem hxi))
        replace this : listed.getD m false = true := this
        rw [hlis] at this
        simp at this
    subst him
    rw [hom] at h2; cases h2
    have hgo : ops.toList.toArray[i]? = some ops.toList[i] := by simp
    unfold wpOpIn
    rw [hgo]
    simp only
    have hw : Region.wanted ops.toList[i] (yielded ops.toList.toArray a'.tmps) = true := wanted_none hgd _
    rw [hw]
    simp only [if_true]
    have mp := m'.part (opTmps ops.toList[i]) (memOf (allE es st0) ops.toList[i])
    have hmask : (canon es st0 (fun k => decide (k < i)) dom).mask (opTmps ops.toList[i]) (memOf (allE es st0) ops.toList[i]) [] = (allE es st0).mask (opTmps ops.toList[i]) (memOf (allE es st0) ops.toList[i]) [] := by
      unfold St.mask
      have e1 : (canon es st0 (fun k => decide (k < i)) dom).n = (allE es st0).n := by rw [allE_n]; rfl
      have e2 : (canon es st0 (fun k => decide (k < i)) dom).tm = (allE es st0).tm := by show (appD _ es 0 st0).tm = _; rw [hall]
      have e3 : (canon es st0 (fun k => decide (k < i)) dom).look = (allE es st0).look := funext fun l => by rw [canon_look, hall]
      rw [e1, e2, e3]
    have hsem2 := sem_dom S false ((canon es st0 (fun k => decide (k < i)) dom).mask (opTmps ops.toList[i]) (memOf (allE es st0) ops.toList[i]) []) (canon es st0 (fun k => decide (k < i)) dom).dom (lab + i) ops.toList[i]
    rw [hmask] at hsem2
    obtain ⟨QQ, hQQ⟩ : ∃ QQ : Eff, QQ = fun sv u => chk u.isEmpty (vcAny S ops.toList lab (ops.toList.drop (i + 1)) (i + 1) (es.map (·.r) ++ [⟨ancOf (es.map (·.r)) ops.toList[i], opTmps ops.toList[i], ops.toList[i].dst, memOf (allE es st0) ops.toList[i], []⟩]) ((allE es st0).put ops.toList[i].dst sv) K) := ⟨_, rfl⟩
    replace hsem : sem S false ((allE es st0).mask (opTmps ops.toList[i]) (memOf (allE es st0) ops.toList[i]) []) (lab + i) ops.toList[i] QQ := by rw [hQQ]; exact hsem
    have hsem3 := (hsem2 QQ).mpr hsem
    rw [← hmask] at hsem3
    obtain ⟨g1, g2⟩ := sem_ok hS hct hg mp hnewd hsem3
    have heval : ({ a' with defers := [] } : Act).eval = a'.eval := funext fun x => by cases x <;> rfl
    have g1' : OpOut P ops.toList[i] a' W' (Fits P glb (bkOf (canon es st0 (fun k => decide (k < i)) dom) ρ' (memOf (allE es st0) ops.toList[i]) W') (xOf (canon es st0 (fun k => decide (k < i)) dom) ρ' X0 (memOf (allE es st0) ops.toList[i]) W') W' ((canon es st0 (fun k => decide (k < i)) dom).mask (opTmps ops.toList[i]) (memOf (allE es st0) ops.toList[i]) (canon es st0 (fun k => decide (k < i)) dom).dom) ρ' { a' with defers := [] } W' QQ) := by
      unfold OpOut at g1 ⊢
      rw [heval] at g1
      exact g1
    refine g1'.wpIn hF g2 fun v w' hfit => ?_
    obtain ⟨sv, u, ρ2, hQu, hle2, m2, hv, _⟩ := hfit
    rw [hQQ] at hQu
    obtain ⟨hu, hvc⟩ := chk_iff.1 hQu
    have hu : u = [] := List.isEmpty_iff.1 hu
    subst hu
    obtain ⟨m3, hsub⟩ := m'.whole (opTmps ops.toList[i]) (memOf (allE es st0) ops.toList[i]) [] (fun l h hl => by cases hl) hle2 m2

    let em : Ef := ⟨⟨ancOf (es.map (·.r)) ops.toList[i], opTmps ops.toList[i], ops.toList[i].dst, memOf (allE es st0) ops.toList[i], []⟩, sv, []⟩
    have hfacts : Facts S ops.toList lab (some i) st0 (es ++ [em]) := by
      refine facts_snoc S ops.toList lab (some i) (fun j e he => ?_) (o := ops.toList[i]) ?_ rfl (by rw [hlen]; exact hap)
      · obtain ⟨o, fe, q1, q2⟩ := hf j e he
        refine ⟨o, ⟨fe.op, fe.wr, fe.dst, fe.new, fe.edges, fe.tch, fe.nln, ?_⟩, q1, q2⟩
        rcases fe.out with q | q | q
        · exact .inl q
        · exact .inr (.inl q)
        · cases q
      · rw [hlen]
        have hedge := edgesAll_spec ops.toList 0 hfe i _ hom
        rw [Nat.zero_add] at hedge
        exact ⟨hom, rfl, hdst, hnew, hedge, rfl, rfl, .inr (.inr rfl)⟩
    obtain ⟨es2, hlen2, hf2, hk2, r2, hr2⟩ := text_runP S ops.toList lab (some i) K st0 (ops.toList.drop (i + 1)) (i + 1) (es ++ [em]) ((allE es st0).put ops.toList[i].dst sv) (by simp [hlen]) (fun j x hx => by rw [List.getElem?_drop] at hx; exact hx) hfacts (by rw [allE_snoc]; rfl) (by rw [List.map_append]; exact hvc)
    have hlen3 : es2.length = ops.toList.length := by rw [hlen2, List.length_drop]; omega
    have hset : ∀ k, (listed.setIfInBounds i true).getD k false = decide (k < i + 1) := by
      intro k
      by_cases hk : k = i
      · subst hk
        have hlt' : k < listed.size := by omega
        simp [hlt']
      · rw [getD_set_ne false (Ne.symm hk), hlis]
        by_cases h : k < i
        · simp [h]; omega
        · simp [h]; omega
    have hDf : (fun k => (listed.setIfInBounds i true).getD k false) = fun k => decide (k < i + 1) := funext hset
    have happ : appD (fun k => decide (k < i + 1)) es2 0 st0 = (allE es st0).put ops.toList[i].dst sv := by
      rw [← hr2, appD_pre r2 (es ++ [em]) 0 st0 (by simp [hlen]), allE_snoc]; rfl
    have hcanon : ∀ l, (canon es st0 (fun k => decide (k < i)) dom).look l = (allE es st0).look l := fun l => by rw [canon_look, hall]
    have hinv2 : InvD P glb Bk X0 w0 es2 st0 ρ0 (fun k => (listed.setIfInBounds i true).getD k false) (a'.put ops.toList[i].dst v) w' := by
      rw [hDf]
      have m4 := m3.put ops.toList[i].dst sv v (by have hd2 := hdst; rw [allE_n] at hd2; rw [upds_n]; exact hd2) (hv.mono ρ2.le_refl (Evo.mono m3.Xlt hsub))
      refine ⟨ρ2, dom, hle'.trans hle2, m4.same ?_ (fun t => ?_) (fun l => ?_) (fun l u hlu => ?_) (fun l he s hh => ?_), fun l hl => ?_⟩
      · rw [put_n, upds_n]; rfl
      · show (appD _ es2 0 st0).tm t = _
        rw [happ]
        cases ops.toList[i].dst with
        | none => show (allE es st0).tm t = (appD _ es 0 st0).tm t; rw [hall]
        | some d => show updf (allE es st0).tm d sv t = updf (appD _ es 0 st0).tm d sv t; rw [hall]
      · rw [canon_look, happ, put_look, put_look]
        exact (hcanon l).symm
      · exact m3.dom l u hlu
      · have : ((appD (fun k => decide (k < i + 1)) es2 0 st0).look l).map (fun h => (h, 0)) = some (he, s) := hh
        cases hq : (appD (fun k => decide (k < i + 1)) es2 0 st0).look l with
        | none => rw [hq] at this; cases this
        | some x => rw [hq] at this; cases this; exact Nat.le_refl _
      · rcases hdom l hl with h | ⟨k, e, he, hk, h⟩
        · exact .inl h
        · refine .inr ⟨k, e, ?_, by simp at hk ⊢; omega, h⟩
          have hkl := (List.getElem?_eq_some_iff.1 he).1
          rw [← hr2, List.append_assoc, List.getElem?_append_left hkl]; exact he
    have hback : ∀ k e, es2[k]? = some e → ∀ j, Nat.testBit e.r.anc j = true → j < k := by
      intro k
      induction k using Nat.strongRecOn with
      | _ k ihk =>
        intro e he j hj
        obtain ⟨o, fe, hanc, _⟩ := hf2 k e he
        rw [hanc] at hj
        obtain ⟨ed, hed, hbd, hcase⟩ := ancOf_spec hj
        have hedge := fe.edges
        simp only [edgesOK, List.all_eq_true] at hedge
        have := hedge ed hed
        rw [hbd] at this
        have hel : ed.on < k := by simpa [Nat.blt_eq] using this
        rcases hcase with rfl | ⟨x, hx, hxj⟩
        · exact hel
        · rw [List.getElem?_map, List.getElem?_take, if_pos hel] at hx
          cases hex : es2[ed.on]? with
          | none => rw [hex] at hx; cases hx
          | some ex =>
            rw [hex] at hx; cases hx
            exact Nat.lt_trans (ihk ed.on hel ex hex j hxj) hel
    refine any_run (Bk := Bk) (X0 := X0) (w0 := w0) (ρ0 := ρ0) (n := n) hF hS hct hg hf2 hlen3 (Q := Q) (fun a3 W3 hinv3 => ?_) fuel _ _ w' (by simpa using hsz) ?_ hinv2 (fun k e he hd j hj => ?_) (fun mm hmm => ?_)
    · obtain ⟨ρ3, dom3, hle3, m5, hdom3⟩ := hinv3
      have hall3 : appD (fun k => decide (k < ops.toList.length)) es2 0 st0 = allE es2 st0 := appD_all es2 0 st0 (fun k hk => by rw [Nat.zero_add]; simp only [decide_eq_true_eq]; omega)
      refine hQ a3 W3 ⟨allE es2 st0, ρ3, hk2, ⟨?_, hle3⟩, m5.same ?_ (fun t => ?_) (fun l => ?_) (fun l u hu => ?_) ?_⟩
      · refine allE_frm wr es2 st0 (fun e he d hd => ?_)
        obtain ⟨j, hj⟩ := List.getElem?_of_mem he
        obtain ⟨o, fe, _, _⟩ := hf2 j e hj
        exact hwr j o d fe.op (by rw [← fe.wr]; exact hd)
      · rw [allE_n]; rfl
      · rw [← hall3]; rfl
      · rw [canon_look, hall3]
      · refine (allE_dom es2 st0).2 ?_
        rcases hdom3 l (m5.dom l u hu) with h | ⟨k, e, he, _, h⟩
        · exact .inl h
        · exact .inr ⟨e, List.mem_of_getElem? he, h⟩
      · exact allE_stamp es2 st0 mt.stamp
    · have hlt2 : (List.range ops.toList.length).countP (fun k => !(listed.setIfInBounds i true).getD k false) < (List.range ops.toList.length).countP (fun k => !listed.getD k false) := by
        refine countP_lt (fun x hx => ?_) _ i (List.mem_range.2 hlt) (by rw [hlis]; simp) (by rw [hset]; simp)
        cases hq : listed.getD x false with
        | false => rfl
        | true => rw [getD_set_true hq] at hx; cases hx
      omega
    · have hd : (listed.setIfInBounds i true).getD k false = true := hd
      show (listed.setIfInBounds i true).getD j false = true
      rw [hset] at hd ⊢
      have := hback k e he j hj
      simp at hd ⊢; omega
    · cases hmm
      rw [hset]; simp
  · exact Nat.le_trans List.countP_le_length (by simp)
  · refine ⟨ρ0, st0.dom, ρ0.le_refl, m1.same rfl (fun t => ?_) (fun l => ?_) (fun l v hv => mt.dom l v hv) (fun l he s hh => ?_), fun l hl => .inl hl⟩
    · show (appD _ es 0 st0).tm t = _
      rw [appD_none es 0 st0 noD]
    · rw [canon_look, appD_none es 0 st0 noD]
    · have : ((appD (fun k => (Array.replicate ops.size false).getD k false) es 0 st0).look l).map (fun h => (h, 0)) = some (he, s) := hh
      cases hq : (appD (fun k => (Array.replicate ops.size false).getD k false) es 0 st0).look l with
      | none => rw [hq] at this; cases this
      | some x => rw [hq] at this; cases this; exact Nat.le_refl _
  · intro k e he hd
    exact absurd ((noD k).symm.trans hd) (by decide)
  · intro k o hk hd
    exact absurd ((noD k).symm.trans hd) (by decide)
end
end Go.GX
