/- Part 6 of the texts behind the proof: Gx25, FaBr, FaC2, FaC3, FaC5, FaC6, FaC7, FaBs, FaK, FaV3, FaV2, FaV1, FaB, FaP1, FaP2, FaM1, FaP3, FaK2. -/
import Derived.Test.YtacedikpdmdodaaG05
import Derived.ProofKit
import Derived.OpenShut
import Derived.Test.YtacedikpdmdodaaRows
import Derived.LaidMore
import Derived.Lay
import Derived.SevenTiedAt
import Derived.Test.YtacedikpdmdodaaProg
import Derived.HandedShaped
import Derived.SizedLaws
import Derived.ChangeArms
import Derived.ChangeKeysEq
import Derived.WalkKit
import Derived.Shelf.Lay
import Derived.Laws.Rows
import Derived.Laws.StructEq
import Derived.Carry
set_option linter.unusedSimpArgs false
set_option linter.unusedVariables false
set_option linter.unusedSectionVars false
set_option linter.unusedVariables false
namespace Go.GX
variable [Inhabited BaseD]
open Go.RowKit Go.Shelf Go.Proofs

inductive Tgt where
  | ty (t : TypeId)
  | fs (l : List Field) (off : Nat)

def Tgt.one (P : Program) (n : Nat) : Tgt → Option TypeId
  | .ty t => some t
  | .fs [f] off => cond (Nat.beq f.offset off && Nat.beq (P.cellsOf f.type) n) (some f.type) none
  | .fs _ _ => none

def arrF (P : Program) (e : TypeId) (n : Nat) : List Field := (List.range n).map fun i => ⟨"", e, i * P.cellsOf e, false, "", "", 0⟩

def Kd.rng : (K : Kd) → K.T → Prop
  | .int k, x => (Lit.int k x).wf = true
  | .pair A B, x => A.rng x.1 ∧ B.rng x.2
  | .agg K, x => K.rng x
  | .sl _ K, xs => ∀ x, x ∈ (show List K.T from xs) → K.rng x
  | _, _ => True

def fitK (P : Program) : Kd → Tgt → Bool
  | .pair A B, .fs (f :: r) off => Nat.beq f.offset off && Nat.beq (P.cellsOf f.type) A.n && fitK P A (.ty f.type) && fitK P B (.fs r (off + A.n))
  | .pair _ _, _ => false
  | .unit, _ => false
  | .int k, s => match s.one P 1 with
    | some t => match P.underlying t with
      | some (.int k') => decide (k' = k)
      | _ => false
    | none => false
  | .bool, s => match s.one P 1 with
    | some t => match P.underlying t with
      | some .bool => true
      | _ => false
    | none => false
  | .sl e K, s => match s.one P 1 with
    | some t => match P.underlying t with
      | some (.slice e') => Nat.beq e' e && Nat.beq (P.cellsOf e) K.n && Nat.ble 1 K.n && fitK P K (.ty e)
      | _ => false
    | none => false
  | .agg K, s => match s.one P K.n with
    | some t => match P.underlying t with
      | some (.struct fs) => Nat.beq (P.cellsOf t) K.n && fitK P K (.fs fs.toList 0)
      | some (.array n e) => Nat.beq (P.cellsOf t) K.n && fitK P K (.fs (arrF P e n) 0)
      | _ => false
    | none => false
  | _, _ => false

section
variable {H : Type} {enc : TypeId × Value → H} {P : Program} {W : World} {base : Nat} {spare : Nat → Bool} {held : Bool}

def Reads (enc : TypeId × Value → H) (P : Program) (W : World) (base : Nat) (spare : Nat → Bool) (held : Bool) : Tgt → List Value → Prop
  | .ty t, cs => ∃ fuel x, DataW.trod enc P W base spare held fuel t cs = some x
  | .fs l off, cs => ∀ (i : Nat) (f : Field), l[i]? = some f → ∃ fuel x, DataW.trod enc P W base spare held fuel f.type ((cs.drop f.offset).take (P.cellsOf f.type)) = some x

def Tgt.cut (n : Nat) : Tgt → List Value → List Value
  | .ty _, cs => cs
  | .fs _ off, cs => (cs.drop off).take n

theorem one_reads {n : Nat} {s : Tgt} {t : TypeId} {cs : List Value} (h : s.one P n = some t) (hr : Reads enc P W base spare held s cs) : ∃ fuel x, DataW.trod enc P W base spare held fuel t (s.cut n cs) = some x := by
  cases s with
  | ty t' => cases h; exact hr
  | fs l off =>
    match l, h with
    | [f], h =>
      simp only [Tgt.one] at h
      cases hb : Nat.beq f.offset off && Nat.beq (P.cellsOf f.type) n with
      | false => rw [hb] at h; cases h
      | true =>
        rw [hb] at h; cases h
        rw [Bool.and_eq_true] at hb
        have h1 := Nat.eq_of_beq_eq_true hb.1
        have h2 := Nat.eq_of_beq_eq_true hb.2
        obtain ⟨fuel, x, hx⟩ := hr 0 f rfl
        exact ⟨fuel, x, by rw [h1, h2] at hx; exact hx⟩

theorem cut0 {l : List Field} {n : Nat} {z : List Value} (h : z.length = n) : (Tgt.fs l 0).cut n z = z := by
  show (z.drop 0).take n = z
  rw [List.drop_zero]
  exact List.take_of_length_le (by omega)
theorem cells?_cell {a : Addr} {n : Nat} {cs : List Value} (h : W.cells? base a n = some cs) : ∀ (i : Nat) u, cs[i]? = some u → W.cell? (a.add i) = some u := by
  unfold World.cells? at h
  split at h
  · intro i u hu
    have hl := mapM_some_length h
    have hi : i < cs.length := (List.getElem?_eq_some_iff.1 hu).1
    have hln : cs.length = n := by simpa using hl
    have := mapM_some_get h i i (List.getElem?_range (by omega))
    rw [this, hu]
  · cases h

theorem fit_rng : ∀ (K : Kd) (s : Tgt) (cs : List Value), fitK P K s = true → Reads enc P W base spare held s cs → (∀ l off, s = .fs l off → off + K.n ≤ cs.length) → ∃ y : K.T, (K.sem P).cells (fun _ => False) W y (s.cut K.n cs) ∧ K.rng y := by
  intro K
  induction K with
  | int k =>
    intro s cs h hr hl
    simp only [fitK] at h
    split at h
    · rename_i t ht
      obtain ⟨fuel, x, hx⟩ := one_reads ht hr
      split at h
      · rename_i k' hu
        have hk := of_decide_eq_true h
        subst hk
        obtain ⟨n, hn, _, hwf⟩ := DataW.trod_int hu hx
        exact ⟨n, ⟨_, hn, rfl, rfl⟩, hwf⟩
      · cases h
    · cases h
  | bool =>
    intro s cs h hr hl
    simp only [fitK] at h
    split at h
    · rename_i t ht
      obtain ⟨fuel, x, hx⟩ := one_reads ht hr
      split at h
      · rename_i hu
        obtain ⟨b, hb, _⟩ := DataW.trod_bool hu hx
        exact ⟨b, ⟨_, hb, rfl, rfl⟩, trivial⟩
      · cases h
    · cases h
  | sl e K ih =>
    intro s cs h hr hl
    simp only [fitK] at h
    split at h
    · rename_i t ht
      obtain ⟨fuel, x, hx⟩ := one_reads ht hr
      split at h
      · rename_i e' hu
        simp only [Bool.and_eq_true] at h
        obtain ⟨⟨⟨h1, h2⟩, hpos⟩, h3⟩ := h
        have hpos := Nat.le_of_ble_eq_true hpos
        obtain rfl := Nat.eq_of_beq_eq_true h1
        have hc := Nat.eq_of_beq_eq_true h2
        rcases DataW.trod_slice hu hx with ⟨hcs, _⟩ | ⟨a, len, cap, elems, rest, n, _, hcs, _, hb, hlc, hcap, hlen, hel, _, _⟩
        · exact ⟨([] : List K.T), ⟨_, hcs, rfl, none, 0, rfl, Nat.le_refl _, by unfold maxLen; omega, fun h => absurd rfl h⟩, fun x hx => (by cases hx)⟩
        · have key : ∀ i : Nat, i < len → ∃ y : K.T, ∃ ecs : List Value, W.cells? base (a.add (i * K.n)) K.n = some ecs ∧ (K.sem P).cells (fun _ => False) W y ecs ∧ K.rng y := by
            intro i hi
            have he := hel i hi
            rw [List.getElem?_eq_getElem (by omega)] at he
            obtain ⟨cs', g1, g2⟩ := Option.bind_eq_some_iff.1 he
            rw [hc] at g1
            obtain ⟨y, hy⟩ := ih (.ty e') cs' h3 ⟨_, _, g2⟩ (fun _ _ h => by cases h)
            exact ⟨y, cs', g1, hy⟩
          have all : ∀ k : Nat, k ≤ len → ∃ ys : List K.T, ys.length = k ∧ ∀ (i : Nat) y, ys[i]? = some y → ∃ ecs : List Value, W.cells? base (a.add (i * K.n)) K.n = some ecs ∧ (K.sem P).cells (fun _ => False) W y ecs ∧ K.rng y := by
            intro k
            induction k with
            | zero => intro _; exact ⟨[], rfl, fun i y h => by simp at h⟩
            | succ k ihk =>
              intro hk
              obtain ⟨ys, hyl, hys⟩ := ihk (by omega)
              obtain ⟨y, ecs, g1, g2⟩ := key k (by omega)
              refine ⟨ys ++ [y], by simp [hyl], fun i z hz => ?_⟩
              by_cases hi : i < ys.length
              · rw [List.getElem?_append_left hi] at hz
                exact hys i z hz
              · have hi' : i = ys.length := by
                  have := (List.getElem?_eq_some_iff.1 hz).1
                  simp at this; omega
                subst hi'
                rw [List.getElem?_concat_length] at hz
                cases hz
                rw [hyl]
                exact ⟨ecs, g1, g2⟩
          obtain ⟨ys, hyl, hys⟩ := all len (Nat.le_refl _)
          refine ⟨ys, ⟨_, hcs, rfl, some a, cap, by rw [hyl], by rw [hyl]; exact hlc, hcap, fun hne => ⟨a, rfl, fun h => h, ?_, fun j y hy => ?_⟩⟩, fun y hy => by
            obtain ⟨j, hj, rfl⟩ := List.mem_iff_getElem.1 hy
            obtain ⟨_, _, _, g3⟩ := hys j _ (List.getElem?_eq_getElem hj)
            exact g3⟩
          · obtain ⟨y0, hy0⟩ : ∃ y0, ys[0]? = some y0 := ⟨ys[0]'(List.length_pos_iff.2 hne), List.getElem?_eq_getElem _⟩
            obtain ⟨ecs, g1, g2, _⟩ := hys 0 y0 hy0
            rw [Nat.zero_mul] at g1
            have hn : 0 < ecs.length := by rw [Kd.cells_length P K g2]; exact hpos
            have := World.block_lt_of_cell? W _ (cells?_cell g1 0 (ecs[0]'hn) (List.getElem?_eq_getElem hn))
            simpa [add_block] using this
          · obtain ⟨ecs, g1, g2, _⟩ := hys j y hy
            refine ⟨ecs, g2, fun i u hu => ?_⟩
            have := cells?_cell g1 i u hu
            rwa [addAdd] at this
      · cases h
    · cases h
  | agg K ih =>
    intro s cs h hr hl
    simp only [fitK] at h
    split at h
    · rename_i t ht
      obtain ⟨fuel, x, hx⟩ := one_reads ht hr
      split at h
      · rename_i fs hu
        rw [Bool.and_eq_true] at h
        have hc := Nat.eq_of_beq_eq_true h.1
        obtain ⟨xs, n, _, _, hlen, hxl, hf⟩ := DataW.trod_struct hu hx
        obtain ⟨y, hy⟩ := ih (.fs fs.toList 0) (s.cut K.n cs) h.2 (fun i f hi => by
          have hi' : fs[i]? = some f := by simpa using hi
          have := hf i f hi'
          have hlt : i < xs.length := by rw [hxl]; exact (Array.getElem?_eq_some_iff.1 hi').1
          rw [List.getElem?_eq_getElem hlt] at this
          exact ⟨_, _, this⟩) (fun l off h => by cases h; rw [hlen, hc]; omega)
        refine ⟨y, ?_⟩
        have := cut0 (l := fs.toList) (n := K.n) (z := s.cut K.n cs) (by rw [hlen, hc])
        rw [this] at hy
        exact hy
      · rename_i n e hu
        rw [Bool.and_eq_true] at h
        have hc := Nat.eq_of_beq_eq_true h.1
        obtain ⟨xs, n', _, _, hlen, hxl, hf⟩ := DataW.trod_array hu hx
        obtain ⟨y, hy⟩ := ih (.fs (arrF P e n) 0) (s.cut K.n cs) h.2 (fun i f hi => by
          unfold arrF at hi
          rw [List.getElem?_map] at hi
          obtain ⟨i', hi', rfl⟩ := Option.map_eq_some_iff.1 hi
          have hin : i < n := by
            have := (List.getElem?_eq_some_iff.1 hi').1
            simpa using this
          rw [List.getElem?_range hin] at hi'
          cases hi'
          have := hf i hin
          rw [List.getElem?_eq_getElem (by omega)] at this
          exact ⟨_, _, this⟩) (fun l off h => by cases h; rw [hlen, hc]; omega)
        refine ⟨y, ?_⟩
        have := cut0 (l := arrF P e n) (n := K.n) (z := s.cut K.n cs) (by rw [hlen, hc])
        rw [this] at hy
        exact hy
      · cases h
    · cases h
  | pair A B ihA ihB =>
    intro s cs h hr hl
    match s, h with
    | .fs (f :: r) off, h =>
      simp only [fitK, Bool.and_eq_true] at h
      obtain ⟨⟨⟨h1, h2⟩, h3⟩, h4⟩ := h
      have h1 := Nat.eq_of_beq_eq_true h1
      have h2 := Nat.eq_of_beq_eq_true h2
      have hll := hl _ _ rfl
      simp only [Kd.n] at hll
      obtain ⟨fuel, x, hx⟩ := hr 0 f rfl
      obtain ⟨ya, hya, rya⟩ := ihA (.ty f.type) _ h3 ⟨fuel, x, hx⟩ (fun _ _ h => by cases h)
      obtain ⟨yb, hyb, ryb⟩ := ihB (.fs r (off + A.n)) cs h4 (fun i f' hi => hr (i + 1) f' (by simpa using hi)) (fun l o h => by cases h; omega)
      refine ⟨(ya, yb), ⟨_, _, ?_, hya, hyb⟩, rya, ryb⟩
      simp only [Tgt.cut, h1, h2, Kd.n]
      rw [List.take_add, List.drop_drop]
  | _ =>
    intro s cs h hr hl
    first
      | (simp only [fitK] at h; done)
      | (unfold fitK at h; cases h)
      | cases h
end
end Go.GX
set_option maxRecDepth 100000
set_option linter.unusedVariables false
namespace Go.Proofs.Fa
open Go Go.GX Go.Proofs Go.ChangeShapes Go.WideShapes Go.ChangeAt Go.RowKit
open Go.Proofs.Ytacedikpdmdodaa

theorem own11 : ownKnob Try.prog.godebug = none := by kernel_rfl
theorem laidOut11 : laidOutB Try.prog = true := by kernel_rfl
abbrev atW (W : World) : Inhabited BaseD := ⟨⟨W.heap.size⟩⟩
theorem glb11 (W : World) : @GlbOK (atW W) Try.prog (assoc glT) (fun _ => False) W :=
  ⟨Nat.le_refl _, fun g v h => by cases h⟩
section
variable {H : Type} {enc : TypeId × Value → H} {W : World} {base b0 : Nat} {spare : Nat → Bool} {held : Bool} {v : Value} {d : DataW H} {p : List MemPlace} [Inhabited BaseD]
theorem arg_agg {K : Kd} {t : TypeId} {fs : Array Field} (hu : Try.prog.underlying t = some (.struct fs)) (hf : fitK Try.prog (.agg K) (.ty t) = true) (hv : Value.okWide Try.prog W .any b0 t v) (h : DataW.Trod enc Try.prog W base spare held t v d p) :
    ∃ x : K.T, ((Kd.agg K).sem Try.prog).val (fun _ => False) W x v ∧ K.rng x := by
  obtain ⟨cs, rfl, _⟩ := okWide_struct hu hv
  obtain ⟨fuel, h⟩ := h
  obtain ⟨x, hx, hr⟩ := fit_rng (.agg K) (.ty t) _ hf ⟨fuel, _, h⟩ (fun _ _ h => by cases h)
  exact ⟨x, ⟨cs.toList, by simp, hx⟩, hr⟩
theorem arg_sl {K : Kd} {e' : TypeId} {t e : TypeId} (hu : Try.prog.underlying t = some (.slice e)) (hf : fitK Try.prog (.sl e' K) (.ty t) = true) (hv : Value.okWide Try.prog W .any b0 t v) (h : DataW.Trod enc Try.prog W base spare held t v d p) :
    ∃ x : List K.T, ((Kd.sl e' K).sem Try.prog).val (fun _ => False) W x v ∧ ∀ y, y ∈ x → K.rng y := by
  obtain ⟨a, n, c, rfl⟩ := okWide_slice hu hv
  obtain ⟨fuel, h⟩ := h
  obtain ⟨x, ⟨v', he, hr⟩, hg⟩ := fit_rng (.sl e' K) (.ty t) _ hf ⟨fuel, _, h⟩ (fun _ _ h => by cases h)
  have he : [Value.slice a n c] = [v'] := he
  cases he
  exact ⟨x, hr.2, hg⟩
end
theorem belowOf {W W' : World} (h : @Bel (atW W) (fun k => k < W.heap.size) W W') : Below W.heap.size W W' :=
  letI := atW W
  ⟨h.os, h.tape, h.output, h.size, fun k hk => h.block k hk fun _ _ _ => hk⟩
section
variable {H : Type} {enc : TypeId × Value → H} {W : World} {base b0 b1 b2 : Nat} {spare : Nat → Bool} {held : Bool} {v0 v1 v2 : Value} {d0 d1 d2 : DataW H} {p0 p1 p2 : List MemPlace}

end
end Go.Proofs.Fa
namespace Go.Proofs.Fa
open Go Go.GX Go.Proofs

def y88_ct (l : Nat) (xs : List FansT) : YS FansT := ⟨S00 [] [], fun lab => Nat.beq lab 202, yopY (S00 [] []) k97 l xs, fun id => cond (Nat.beq id 4) 11 0⟩
def f88_an : Nat → Items
  | 0 => [.cell 101 97 k97]
  | 2 => [.t 5 k3, .cell 101 97 k97]
  | _ => []
def f88v_ct (l : Nat) (f : FansT) (xs : List FansT) : Prop := vcIterI (y88_ct l xs) f88_an Try.f88 (bodyOf Try.f88) k97 f l xs

abbrev Pk := List BinT × List BinT
structure POK (p : Pk) : Prop where
  e : p.2 = p.1
  b : BinsOK p.1
def f81_wp : List BinT → Unit → (Pk → Prop) → Prop := fun bs _ Q => bs.length ≤ 1000 ∧ Q (bs, bs)
def f81_ct : Ct := ⟨k103, .unit, k119, f81_wp, false, false⟩

def f82n_wp (n : Nat) : Pk × Int × FansT × Unit → Unit → (Int → Prop) → Prop := fun a _ Q =>
  (POK a.1 ∧ FOK a.2.2.1 ∧ 0 ≤ a.2.1 ∧ a.2.1 ≤ a.1.1.length ∧ a.1.1.length < a.2.1.toNat + n) ∧ Q (GX.Fa.least (a.1.1.drop a.2.1.toNat) a.2.2.1)
def f82n_ct (n : Nat) : Ct := ⟨arg3 k119 k3 k97, .unit, k3, f82n_wp n, false, false⟩
def f82_wp : Pk × Int × FansT × Unit → Unit → (Int → Prop) → Prop := fun a _ Q =>
  (POK a.1 ∧ FOK a.2.2.1 ∧ 0 ≤ a.2.1 ∧ a.2.1 ≤ a.1.1.length) ∧ Q (GX.Fa.least (a.1.1.drop a.2.1.toNat) a.2.2.1)
def f82_ct : Ct := ⟨arg3 k119 k3 k97, .unit, k3, f82_wp, false, false⟩
def f82_an : Nat → Items
  | 0 => [.cell 900 3 k3]
  | _ => []
end Go.Proofs.Fa
namespace Go.Proofs.Fa
open Go Go.GX Go.Proofs

def NO4 : FansT := (0, 0, 0, 0)

def smStep (b : BinT) (r : List BinT) (f : FansT) (left : Int) (st : List Int × FansT × Bool) (s : FansT) : List Int × FansT × Bool :=
  if GX.Fa.fitsB b s && decide (GX.Fa.lossV b s + GX.Fa.least r (GX.Fa.less f s) = left) then
    (if !st.2.2 || decide (cmpL (listF s) st.1 < 0) then (listF s, s, true) else st)
  else st
def smPick (b : BinT) (r : List BinT) (f : FansT) (left : Int) : List Int × FansT × Bool := (GX.Fa.upTo f).foldl (smStep b r f left) ([], NO4, false)
def smGo : List BinT → Int → FansT → List (List Int)
  | [], _, _ => []
  | b :: r, left, f => (smPick b r f left).1 :: smGo r (left - GX.Fa.lossV b (smPick b r f left).2.1) (GX.Fa.less f (smPick b r f left).2.1)
def smallF (bs : List BinT) (f : FansT) : List (List Int) := if GX.Fa.least bs f ≥ GX.Fa.NONE then [] else smGo bs (GX.Fa.least bs f) f
def f95_wp : Pk × FansT × Unit → Unit → (List (List Int) → Prop) → Prop := fun a _ Q => (POK a.1 ∧ FOK a.2.1) ∧ Q (smallF a.1.1 a.2.1)
def f95_ct : Ct := ⟨arg2 k119 k97, .unit, k33, f95_wp, false, false⟩
def f95_an : Nat → Items
  | 0 => [.t 23 k3, .row 4 5001 false 22 k22, .cell 103 3 k3, .cell 1 97 k97]
  | 2 => [.cell 700 22 k22, .cell 801 97 k97, .cell 802 4 .bool]
  | _ => []
def listedF (bs : List BinT) (f : FansT) : List (List Int) × Int := if GX.Fa.least bs f ≥ GX.Fa.NONE then ([], 9) else (smallF bs f, 0)
def f67_wp : List BinT × FansT × Unit → Unit → (List (List Int) × Int × Unit → Prop) → Prop := fun a _ Q => (BinsOK a.1 ∧ FOK a.2.1) ∧ Q ((listedF a.1 a.2.1).1, (listedF a.1 a.2.1).2, ())
def f67_ct : Ct := ⟨arg2 k103 k97, .unit, res2 k33 k31, f67_wp, false, false⟩
def canF (bs : List BinT) (f : FansT) : Bool := decide (GX.Fa.least bs f < GX.Fa.NONE)
def f102_wp : FansT → Pk × Pk × Unit → (Bool → Prop) → Prop := fun f c Q => (POK c.1 ∧ POK c.2.1 ∧ FOK f) ∧ Q (canF c.1.1 f && canF c.2.1.1 f)
def f102_ct : Ct := ⟨k97, arg2 (.ptr 119 k119) (.ptr 119 k119), .bool, f102_wp, false, false⟩
def lvs (x : Fashion) (each first : Int) : List BinT := leavesF x.1.1 x.1.2.1 x.2.1.length x.2.2 each first
def lts (x : Fashion) : List BinT := lotsF x.1.2.2 x.2.1 x.2.2
def f86_wp : Fashion → Unit → ((FansT → (Bool → Prop) → Prop) → Prop) → Prop := fun x _ Q => XOK x ∧ Q (fun f R => f102_wp f ((lvs x 0 0, lvs x 0 0), (lts x, lts x), ()) R)
def f86_ct : Ct := ⟨k99, .unit, k124, f86_wp, false, false⟩
def cH (f : List Spring) : FansT := cntF (fun s => s.2) f
def cL (f : List Spring) : FansT := cntF (fun s => s.1) f
def resLeaves (s : Store) (f : List Spring) : List (List Int) × Int := if checkF s f ≠ 0 then ([], checkF s f) else listedF (lvs (s, f, cH f) 0 1) (wantF f)
def f21_wp : Store × List Spring × Unit → Unit → (List (List Int) × Int × Unit → Prop) → Prop := fun a _ Q => Q ((resLeaves a.1 a.2.1).1, (resLeaves a.1 a.2.1).2, ())
def f21_ct : Ct := ⟨arg2 k25 k26, .unit, res2 k33 k31, f21_wp, false, false⟩
def resLots (s : Store) (f : List Spring) : List (List Int) × Int := if checkF s f ≠ 0 then ([], checkF s f) else listedF (lts (s, f, cH f)) (wantF f)
def f29_wp : Store × List Spring × Unit → Unit → (List (List Int) × Int × Unit → Prop) → Prop := fun a _ Q => Q ((resLots a.1 a.2.1).1, (resLots a.1 a.2.1).2, ())
def f29_ct : Ct := ⟨arg2 k25 k26, .unit, res2 k33 k31, f29_wp, false, false⟩
def makesF (x : Fashion) (f : FansT) : Bool := canF (lvs x 0 0) f && canF (lts x) f
def l4 (t : FansT) : List Int := [t.1, t.2.1, t.2.2.1, t.2.2.2]
def mostStep (mk : FansT → Bool) (best some : FansT) : FansT :=
  if sumF some < sumF best || (sumF some == sumF best && decide (cmpL (l4 some) (l4 best) ≤ 0)) || !mk some then best else some
def mostF (mk : FansT → Bool) (w : FansT) : FansT := (GX.Fa.upTo w).foldl (mostStep mk) NO4
def resMost (s : Store) (f : List Spring) : List Int × Int := if checkF s f ≠ 0 then ([], checkF s f) else ((l4 (mostF (makesF (s, f, cH f)) (wantF f))).take f.length, 0)
def f50_wp : Store × List Spring × Unit → Unit → (List Int × Int × Unit → Prop) → Prop := fun a _ Q => Q ((resMost a.1 a.2.1).1, (resMost a.1 a.2.1).2, ())
def f50_ct : Ct := ⟨arg2 k25 k26, .unit, res2 k22 k31, f50_wp, false, false⟩
def f50_an : Nat → Items
  | 0 => [.cell 503 97 k97]
  | _ => []

def newOK (s : Store) (f : List Spring) (p : Int) (n : Nat) : Bool := canF (leavesF (s.1 ++ List.replicate n p) s.2.1 f.length (cH f) 0 0) (wantF f)
def newF (s : Store) (f : List Spring) (p : Int) : Int × Int :=
  match (List.range ((sumF (wantF f)).toNat + 1)).find? (newOK s f p) with
  | some n => ((n : Int), 0)
  | none => (0, 9)
def resNew (s : Store) (f : List Spring) (p : Int) : Int × Int := if checkF s f ≠ 0 then (0, checkF s f) else if inB 1 200 p = false then (0, 7) else newF s f p
def f31_wp : Store × List Spring × Int × Unit → Unit → (Int × Int × Unit → Prop) → Prop := fun a _ Q => Q ((resNew a.1 a.2.1 a.2.2.1).1, (resNew a.1 a.2.1 a.2.2.1).2, ())
def f31_ct : Ct := ⟨arg3 k25 k26 k3, .unit, res2 k3 k31, f31_wp, false, false⟩
abbrev kNew : Kd := .pair k3 (.pair k23 (.pair k26 k97))
def f31_an : Nat → Items
  | 1 => [.t 34 k3, .crow 603 99 5001 false 3 k3 kNew]
  | _ => []
def needS (c w : FansT) (seam ck : Int) : Nat → Int
  | 0 => 0
  | i + 1 => needS c w seam ck i + if at4 c i ≥ ck then at4 w i * (at4 c i + seam) else 0
def hasS (ls : List Int) (seam ck : Int) : Int := ls.foldl (fun a l => if l ≥ ck then a + (l + seam) else a) 0
def missB (s : Store) (f : List Spring) (k : Nat) : Int := needS (cH f) (wantF f) s.2.1 (at4 (cH f) k) 4 - hasS s.1 s.2.1 (at4 (cH f) k)
def boundN (s : Store) (f : List Spring) (p : Int) (k : Nat) : Int := Int.tdiv (mxI 0 (missB s f k) + (p + s.2.1) - 1) (p + s.2.1)
def boundStep (s : Store) (f : List Spring) (p : Int) (b : Int × Int) (k : Nat) : Int × Int := if boundN s f p k > b.1 then (boundN s f p k, (k : Int)) else b
def boundF (s : Store) (f : List Spring) (p : Int) : Int × Int := (List.range f.length).foldl (boundStep s f p) (0, 0)
def resBound (s : Store) (f : List Spring) (p : Int) : Int × Int × Int := if checkF s f ≠ 0 then (0, 0, checkF s f) else if inB 1 200 p = false then (0, 0, 7) else ((boundF s f p).1, (boundF s f p).2, 0)
def f34_wp : Store × List Spring × Int × Unit → Unit → (Int × Int × Int × Unit → Prop) → Prop := fun a _ Q => Q ((resBound a.1 a.2.1 a.2.2.1).1, (resBound a.1 a.2.1 a.2.2.1).2.1, (resBound a.1 a.2.1 a.2.2.1).2.2, ())
def f34_ct : Ct := ⟨arg3 k25 k26 k3, .unit, res3 k3 k3 k31, f34_wp, false, false⟩
def f34_an : Nat → Items
  | 1 => [.t 38 k3, .t 6 k3, .t 7 k3]
  | 3 => [.t 43 k3, .t 12 k3]
  | 5 => [.t 71 k3, .t 12 k3]
  | _ => []
def noneF (n : Nat) (l : List Int) : Bool := !(l.all (inB 0 ((n : Int) - 1))) || !(sortedB l)
def f83_wp : List Int → List Spring × Unit → (Bool → Prop) → Prop := fun l c Q => c.1.length ≤ 100 ∧ Q (noneF c.1.length l)
def f83_ct : Ct := ⟨k22, arg1 (.ptr 26 k26), .bool, f83_wp, false, false⟩
def restNx (f : List Spring) (seam sp : Int) (first : Bool) (left : Int) : Int := left - (f.getD sp.toNat ((0, 0), 0, 0)).1.2 - (if first then 0 else seam)

def restGo (f : List Spring) (seam : Int) : List Int → Bool → Int → Option Int
  | [], _, left => some left
  | sp :: r, first, left => if restNx f seam sp first left < 0 then none else restGo f seam r false (restNx f seam sp first left)
def restOne (f : List Spring) (seam leaf : Int) (l : List Int) : Option Int := (restGo f seam l true leaf).map fun x => if l.length > 0 then mxI 0 (x - seam) else x
def restAll (f : List Spring) (seam : Int) : List Int → List (List Int) → Option (List Int)
  | _, [] => some []
  | [], _ => some []
  | leaf :: ls, l :: c => match restOne f seam leaf l with
    | none => none
    | some x => (restAll f seam ls c).map (x :: ·)
def restF (s : Store) (f : List Spring) (c : List (List Int)) : List Int × Int :=
  if c.length ≠ s.1.length ∨ c.any (noneF f.length) = true then ([], 7)
  else match restAll f s.2.1 s.1 c with
    | some l => (l, 0)
    | none => ([], 9)
def resRest (s : Store) (f : List Spring) (c : List (List Int)) : List Int × Int := if checkF s f ≠ 0 then ([], checkF s f) else restF s f c
def f36_wp : Store × List Spring × List (List Int) × Unit → Unit → (List Int × Int × Unit → Prop) → Prop := fun a _ Q => Q ((resRest a.1 a.2.1 a.2.2.1).1, (resRest a.1 a.2.1 a.2.2.1).2, ())
def f36_ct : Ct := ⟨arg3 k25 k26 k33, .unit, res2 k22 k31, f36_wp, false, false⟩
def f36_an : Nat → Items
  | 0 => [.t 35 k3, .row 6 5001 false 3 k3]
  | 2 => [.t 47 k3, .t 12 k3, .row 6 5002 false 3 k3]
  | _ => []
def lossF (s : Store) (f : List Spring) : Int × Int × Int :=
  if GX.Fa.least (lvs (s, f, cH f) s.2.1 (-s.2.1)) (wantF f) ≥ 549755813888 || decide (GX.Fa.least (lts (s, f, cH f)) (wantF f) ≥ GX.Fa.NONE) then (0, 0, 9)
  else (GX.Fa.least (lvs (s, f, cH f) s.2.1 (-s.2.1)) (wantF f), GX.Fa.least (lts (s, f, cH f)) (wantF f), 0)
def resLoss (s : Store) (f : List Spring) : Int × Int × Int := if checkF s f ≠ 0 then (0, 0, checkF s f) else lossF s f
def f39_wp : Store × List Spring × Unit → Unit → (Int × Int × Int × Unit → Prop) → Prop := fun a _ Q => Q ((resLoss a.1 a.2.1).1, (resLoss a.1 a.2.1).2.1, (resLoss a.1 a.2.1).2.2, ())
def f39_ct : Ct := ⟨arg2 k25 k26, .unit, res3 k3 k3 k31, f39_wp, false, false⟩

def put4 (t : FansT) (k : Nat) (u : Int) : FansT := tup4 fun i => if i = k then u else at4 t i
def riseOK (s : Store) (f : List Spring) (k : Nat) (n : Int) : Bool := makesF (s, f, put4 (cH f) k n) (wantF f)

def riseGo (s : Store) (f : List Spring) (k : Nat) : Nat → Int × Int
  | 0 => (0, 9)
  | n + 1 => if n + 1 < 2 then (0, 9) else if riseOK s f k ((n + 1 : Nat) : Int) then (((n + 1 : Nat) : Int), 0) else riseGo s f k n
def resRise (s : Store) (f : List Spring) (k : Int) : Int × Int := if checkF s f ≠ 0 then (0, checkF s f) else if inB 0 ((f.length : Int) - 1) k = false then (0, 7) else riseGo s f k.toNat 40
def f41_wp : Store × List Spring × Int × Unit → Unit → (Int × Int × Unit → Prop) → Prop := fun a _ Q => Q ((resRise a.1 a.2.1 a.2.2.1).1, (resRise a.1 a.2.1 a.2.2.1).2, ())
def f41_ct : Ct := ⟨arg3 k25 k26 k3, .unit, res2 k3 k31, f41_wp, false, false⟩
def f41_an : Nat → Items
  | 1 => [.t 9 k3]
  | _ => []
end Go.Proofs.Fa
namespace Go.Proofs.Fa
open Go Go.GX Go.Proofs

def f22_wp : Store × List Spring × Unit → Unit → (Int → Prop) → Prop := fun a _ Q => Q (checkF a.1 a.2.1)
def f22_ct : Ct := ⟨arg2 k25 k26, .unit, k31, f22_wp, false, false⟩
def f16_wp : Store × List Spring × Unit → Unit → (Bool → Prop) → Prop := fun a _ Q => Q (decide (8 < a.1.1.length ∨ 8 < a.1.2.2.length ∨ 8 < a.2.1.length))
def f16_ct : Ct := ⟨arg2 k25 k26, .unit, .bool, f16_wp, false, false⟩
def f18_wp : Store → Unit → (Store → Prop) → Prop := fun s _ Q => (s.1.length ≤ 8 ∧ s.2.2.length ≤ 8) ∧ Q s
def f18_ct : Ct := ⟨k25, .unit, k25, f18_wp, false, false⟩
def f19_wp : List Spring → Unit → (List Spring → Prop) → Prop := fun f _ Q => f.length ≤ 8 ∧ Q f
def f19_ct : Ct := ⟨k26, .unit, k26, f19_wp, false, false⟩
def f38_wp : List Int × List Int × Unit → Unit → (Bool → Prop) → Prop := fun a _ Q => Q (decide (a.1 = a.2.1))
def f38_ct : Ct := ⟨arg2 k22 k22, .unit, .bool, f38_wp, false, false⟩
def one_an : Nat → Items
  | 0 => [.t 5 k3]
  | _ => []
def f23_wp : Store × Store × List Spring × List Spring × Unit → Unit → (Bool → Prop) → Prop := fun a _ Q => Q (decide (a.1 = a.2.1 ∧ a.2.2.1 = a.2.2.2.1))
def f23_ct : Ct := ⟨arg4 k25 k25 k26 k26, .unit, .bool, f23_wp, false, false⟩
def f28_wp : List (List Int) × List (List Int) × Unit → Unit → (Bool → Prop) → Prop := fun a _ Q => Q (decide (a.1 = a.2.1))
def f28_ct : Ct := ⟨arg2 k33 k33, .unit, .bool, f28_wp, false, false⟩

def F5 (f : FansT) : Prop := all4 (fun x => 0 ≤ x ∧ x ≤ 4) f
def atF (n : Int) : FansT := (n / 125, n / 25 % 5, n / 5 % 5, n % 5)
def idx5 (f : FansT) : Int := ((f.1 * 5 + f.2.1) * 5 + f.2.2.1) * 5 + f.2.2.2
def costF (b : BinT) (f : FansT) : Int := if GX.Fa.fitsB b f then GX.Fa.lossV b f else -1
def ge0 (f : FansT) : Bool := decide (0 ≤ f.1) && decide (0 ≤ f.2.1) && decide (0 ≤ f.2.2.1) && decide (0 ≤ f.2.2.2)

def lstStep (b : BinT) (rest : FansT → Int) (f : FansT) (best : Int) (s : FansT) : Int :=
  if !ge0 (GX.Fa.less f s) || decide (rest (GX.Fa.less f s) < 0) then best
  else if decide (0 ≤ costF b s) && (decide (best < 0) || decide (costF b s + rest (GX.Fa.less f s) < best)) then costF b s + rest (GX.Fa.less f s) else best
def lstR (b : BinT) (rest : FansT → Int) (f : FansT) : Int := (List.range ((idx5 f).toNat + 1)).foldl (fun best (n : Nat) => lstStep b rest f best (atF n)) (-1)
def tval : List BinT → FansT → Int
  | [], f => if GX.Fa.isNo f then 0 else -1
  | b :: r, f => lstR b (tval r) f
structure Bins0 (bs : List BinT) : Prop where
  b : BinsOK bs
  n : ∀ b, b ∈ bs → ∀ s, F5 s → GX.Fa.fitsB b s = true → 0 ≤ GX.Fa.lossV b s
  k : bs.length ≤ 100
def f26_wp : List Spring × Bool × Unit → Unit → (FansT → Prop) → Prop := fun a _ Q => a.1.length ≤ 4 ∧ Q (if a.2.1 then cH a.1 else cL a.1)
def f26_ct : Ct := ⟨arg2 k26 .bool, .unit, k41, f26_wp, false, false⟩
def f27_wp : List Spring → Unit → (FansT → Prop) → Prop := fun f _ Q => f.length ≤ 4 ∧ Q (wantF f)
def f27_ct : Ct := ⟨k26, .unit, k41, f27_wp, false, false⟩
def leavesR (ls : List Int) (seam : Int) (c : FansT) (each first : Int) : List BinT := ls.map fun p => (tup4 fun i => at4 c i + seam, tup4 fun _ => each, p + seam, first)
def f25_wp : List Int × Int × FansT × Int × Int × Unit → Unit → (List BinT → Prop) → Prop := fun a _ Q =>
  (a.1.length ≤ 500 ∧ (∀ l, l ∈ a.1 → bnd 400 l) ∧ bnd 400 a.2.1 ∧ all4 (bnd 400) a.2.2.1) ∧ Q (leavesR a.1 a.2.1 a.2.2.1 a.2.2.2.1 a.2.2.2.2.1)
def f25_ct : Ct := ⟨.pair k22 (.pair k3 (arg3 k41 k3 k3)), .unit, k39, f25_wp, true, false⟩
def lotR (f : List Spring) (c : FansT) (l : Lot) : BinT :=
  (tup4 fun i => if i < f.length then (if (f.getD i ((0, 0), 0, 0)).2.2 > l.1 then 1000 else at4 c i) else 0,
    tup4 fun i => if i < f.length then (if (f.getD i ((0, 0), 0, 0)).2.2 > l.1 then 0 else at4 c i * (l.1 - (f.getD i ((0, 0), 0, 0)).2.2)) else 0, l.2, 0)
def lotsR (ls : List Lot) (f : List Spring) (c : FansT) : List BinT := ls.map (lotR f c)
def f30_wp : List Lot × List Spring × FansT × Unit → Unit → (List BinT → Prop) → Prop := fun a _ Q =>
  (a.1.length ≤ 500 ∧ a.2.1.length ≤ 4 ∧ (∀ l, l ∈ a.1 → bnd 400 l.1 ∧ bnd 400 l.2) ∧ (∀ s, s ∈ a.2.1 → bnd 400 s.2.2) ∧ all4 (bnd 400) a.2.2.1) ∧ Q (lotsR a.1 a.2.1 a.2.2.1)
def f30_ct : Ct := ⟨arg3 k23 k26 k41, .unit, k39, f30_wp, true, false⟩
def bump (t : FansT) (k : Int) : FansT := put4 t k.toNat (at4 t k.toNat + 1)
def numF (l : List Int) : FansT := l.foldl bump NO4
def in4 (l : List Int) : Prop := ∀ x, x ∈ l → 0 ≤ x ∧ x ≤ 3
def fromL (b : List Int) : Int := if b.length > 0 then b.getD (b.length - 1) 0 else 0

def listsF : Nat → List Int → FansT → List (List Int)
  | 0, _, _ => []
  | n + 1, b, f => b :: (List.range (4 - (fromL b).toNat)).flatMap fun j => if at4 (numF b) ((fromL b).toNat + j) < at4 f ((fromL b).toNat + j) then listsF n (b ++ [(((fromL b).toNat + j : Nat) : Int)]) f else []
def asc (l : List Int) : Prop := l.Pairwise (· ≤ ·)
def allL (f : FansT) : List (List Int) := listsF ((sumF f).toNat + 1) [] f
def smOK (b : BinT) (r : List BinT) (left : Int) (f : FansT) (l : List Int) : Bool :=
  decide (0 ≤ costF b (numF l)) && decide (0 ≤ tval r (GX.Fa.less f (numF l))) && decide (costF b (numF l) + tval r (GX.Fa.less f (numF l)) = left)
def smR : List BinT → Int → FansT → List (List Int)
  | [], _, _ => []
  | b :: r, left, f => match (allL f).find? (smOK b r left f) with
    | some l => l :: smR r (left - costF b (numF l)) (GX.Fa.less f (numF l))
    | none => smR r left f
def smallR (bs : List BinT) (f : FansT) : List (List Int) × Bool := if tval bs f < 0 then ([], false) else (smR bs (tval bs f) f, true)
def f24_wp : List BinT × FansT × Unit → Unit → (List (List Int) × Bool × Unit → Prop) → Prop := fun a _ Q => (Bins0 a.1 ∧ F5 a.2.1) ∧ Q ((smallR a.1 a.2.1).1, (smallR a.1 a.2.1).2, ())
def f24_ct : Ct := ⟨arg2 k39 k41, .unit, res2 k33 .bool, f24_wp, false, false⟩
def lvR (s : Store) (c : FansT) (each first : Int) : List BinT := leavesR s.1 s.2.1 c each first
def ltR (s : Store) (f : List Spring) (c : FansT) : List BinT := lotsR s.2.2 f c
def lossR (s : Store) (f : List Spring) : Int × Int := (tval (lvR s (cH f) s.2.1 (-s.2.1)) (wantF f), tval (ltR s f (cH f)) (wantF f))
end Go.Proofs.Fa
namespace Go.Proofs.Fa
open Go Go.GX Go.Proofs

def f55_wp : Int × Int × Unit → Unit → (Int × Int → Prop) → Prop := fun a _ Q => Q (a.1, a.2.1)
def f55_ct : Ct := ⟨arg2 k3 k3, .unit, k69, f55_wp, false, false⟩

def stD : Store := ([30, 28, 34], 2, [(35, 40), (25, 40)])
def spD : List Spring := [((14, 16), 2, 20), ((10, 10), 3, 30)]
def f56_wp : Unit → Unit → (Store → Prop) → Prop := fun _ _ Q => Q stD
def f56_ct : Ct := ⟨.unit, .unit, k25, f56_wp, false, false⟩
def f57_wp : Unit → Unit → (List Spring → Prop) → Prop := fun _ _ Q => Q spD
def f57_ct : Ct := ⟨.unit, .unit, k26, f57_wp, false, true⟩
def f17_wp : Unit → Unit → (Bool → Prop) → Prop := fun _ _ Q => Q true
def f17_ct : Ct := ⟨.unit, .unit, .bool, f17_wp, false, false⟩
def fL2_wp : Store × List Spring × Unit → Unit → (Bool → Prop) → Prop := fun _ _ Q => Q true
def fL2_ct : Ct := ⟨arg2 k25 k26, .unit, .bool, fL2_wp, false, false⟩
def f3_ct : Ct := fL2_ct
def f4_ct : Ct := fL2_ct
end Go.Proofs.Fa
namespace Go.Proofs.Fa
open Go Go.GX Go.Proofs

abbrev By4 := Int × Int × Int × Int

abbrev Season := List Int × Int × List (Int × Int) × List By4
def byteB (x : Int) : Prop := 0 ≤ x ∧ x ≤ 255
structure SeaOK (x : Season) : Prop where
  l : ∀ y, y ∈ x.1 → byteB y
  s : byteB x.2.1
  t : ∀ y, y ∈ x.2.2.1 → byteB y.1 ∧ byteB y.2
  f : ∀ y, y ∈ x.2.2.2 → byteB y.1 ∧ byteB y.2.1 ∧ byteB y.2.2.1 ∧ byteB y.2.2.2
def sprO (v : By4) : Spring := ((4 + v.1 % 20, 4 + v.1 % 20 + v.2.1 % 6), v.2.2.1 % 5, 5 + v.2.2.2 % 35)
def seaS (x : Season) : Store := ((x.1.take 5).map fun b => 10 + b % 90, x.2.1 % 6, (x.2.2.1.take 4).map fun v => (10 + v.1 % 40, v.2 % 120))
def seaF (x : Season) : List Spring := if x.2.2.2.length = 0 then [sprO (12, 3, 2, 15)] else (x.2.2.2.take 3).map sprO
def f43_wp : Season → Unit → (Store × List Spring × Unit → Prop) → Prop := fun x _ Q => SeaOK x ∧ Q (seaS x, seaF x, ())
def f43_ct : Ct := ⟨k65, .unit, res2 k25 k26, f43_wp, false, false⟩
def f43_an : Nat → Items
  | 0 => [.t 6 k3, .crow2 106 25 5001 false 3 k3 k3 5002 false 77 k77]
  | 2 => [.t 7 k3, .crow2 106 25 5003 false 3 k3 k3 5004 false 77 k77]
  | 4 => [.t 8 k3, .row 5 5005 false 71 k71]
  | 1000003 => [.t 25 .bool]
  | 1000007 => [.t 49 .bool]
  | 1000011 => [.t 87 .bool]
  | 2000015 => [.cell 1301 127 k127]
  | _ => []
def f44_wp : Store → Unit → (Store → Prop) → Prop := fun s _ Q => (s.1.length ≤ 1000 ∧ s.2.2.length ≤ 1000) ∧ Q s
def f44_ct : Ct := ⟨k25, .unit, k25, f44_wp, false, false⟩
def f45_wp : List Spring → Unit → (List Spring → Prop) → Prop := fun f _ Q => f.length ≤ 1000 ∧ Q f
def f45_ct : Ct := ⟨k26, .unit, k26, f45_wp, false, true⟩
def byteAt (l : List Int) (i : Nat) : Int := if l.length = 0 then 0 else l.getD (i % l.length) 0
def f48_wp : List Int × Int × Unit → Unit → (Int → Prop) → Prop := fun a _ Q => (0 ≤ a.2.1 ∧ a.2.1 ≤ 1000000000 ∧ ∀ y, y ∈ a.1 → byteB y) ∧ Q (byteAt a.1 a.2.1.toNat)
def f48_ct : Ct := ⟨arg2 k61 k3, .unit, k3, f48_wp, false, false⟩
def cntO (f : List Spring) (tr : List Int) (i : Nat) : Int :=
  if tr.length > 0 then (f.getD i ((0, 0), 0, 0)).1.1 + byteAt tr i * ((f.getD i ((0, 0), 0, 0)).1.2 - (f.getD i ((0, 0), 0, 0)).1.1) / 255 else (f.getD i ((0, 0), 0, 0)).1.2
def f46_wp : List Spring × List Int × Unit → Unit → (List Int → Prop) → Prop := fun a _ Q => ((∀ s, s ∈ a.1 → 0 ≤ s.1.1 ∧ s.1.1 ≤ s.1.2 ∧ s.1.2 ≤ 1000) ∧ (∀ y, y ∈ a.2.1 → byteB y) ∧ a.1.length ≤ 1000) ∧ Q ((List.range a.1.length).map (cntO a.1 a.2.1))
def f46_ct : Ct := ⟨arg2 k26 k61, .unit, k22, f46_wp, true, false⟩
def f46_an : Nat → Items
  | 0 => [.t 6 k3, .row 5 5001 false 3 k3]
  | _ => []

def usedO (seam : Int) (c : List Int) (lots : Bool) (l : List Int) : Nat → Int
  | 0 => 0
  | k + 1 => usedO seam c lots l k + c.getD (l.getD k 0).toNat 0 + if decide (k > 0) && !lots then seam else 0
def okOne (s : Store) (f : List Spring) (lots : Bool) (i : Nat) (l : List Int) (k : Nat) : Prop :=
  (0 ≤ l.getD k 0 ∧ l.getD k 0 < f.length) ∧ (k > 0 → l.getD (k - 1) 0 ≤ l.getD k 0) ∧ (lots = true → (f.getD (l.getD k 0).toNat ((0, 0), 0, 0)).2.2 ≤ (s.2.2.getD i (0, 0)).1)
def okList (s : Store) (f : List Spring) (c : List Int) (lots : Bool) (i : Nat) (l : List Int) : Prop :=
  (∀ k, k < l.length → okOne s f lots i l k) ∧ (if lots then usedO s.2.1 c lots l l.length ≤ (s.2.2.getD i (0, 0)).2 else usedO s.2.1 c lots l l.length ≤ s.1.getD i 0)
def manyO (s : Store) (lots : Bool) : Nat := if lots then s.2.2.length else s.1.length
def okLists (s : Store) (f : List Spring) (c : List Int) (ls : List (List Int)) (lots : Bool) : Prop := ls.length = manyO s lots ∧ ∀ i, i < ls.length → okList s f c lots i (ls.getD i [])

def fansO (f : List Spring) (ls : List (List Int)) : List Int := (List.range f.length).map fun (i : Nat) => ((ls.flatten.count (i : Int) : Nat) : Int)
def f47_wp : Store × List Spring × List Int × List (List Int) × Bool × Unit → Unit → (List Int × Bool × Unit → Prop) → Prop := fun a _ Q =>
  ((a.2.1.length ≤ 1000 ∧ a.2.2.1.length = a.2.1.length ∧ (∀ x, x ∈ a.2.2.1 → 0 ≤ x ∧ x ≤ 1000) ∧ (0 ≤ a.1.2.1 ∧ a.1.2.1 ≤ 1000) ∧ a.2.2.2.1.length ≤ 1000 ∧ ∀ l, l ∈ a.2.2.2.1 → l.length ≤ 1000) ∧ okLists a.1 a.2.1 a.2.2.1 a.2.2.2.1 a.2.2.2.2.1) ∧ Q (fansO a.2.1 a.2.2.2.1, true, ())
def f47_ct : Ct := ⟨.pair k25 (.pair k26 (arg3 k22 k33 .bool)), .unit, res2 k22 .bool, f47_wp, false, false⟩
def f47_an : Nat → Items
  | 0 => [.t 14 k3, .lrow 102 true 3 k3, .t 10 k22, .t 11 .bool]
  | 2 => [.t 16 k3, .t 15 k3, .lrow 102 true 3 k3, .t 10 k22, .t 11 .bool]
  | 2000003 => [.t 13 k3]
  | 1000014 => [.t 94 .bool]
  | 2000019 => [.t 15 k3]
  | 1000020 => [.t 141 .bool]
  | _ => []
def f13_wp : Season × List Int × Unit → Unit → (Bool → Prop) → Prop := fun a _ Q => (SeaOK a.1 ∧ (∀ y, y ∈ a.2.1 → byteB y) ∧ a.2.1.length ≤ 140737488351232) ∧ Q true
end Go.Proofs.Fa
set_option maxRecDepth 100000
set_option linter.unusedVariables false
namespace Go.Proofs.Fa
open Go Go.GX Go.Proofs Go.ChangeShapes Go.WideShapes Go.ChangeAt Go.RowKit
open Go.Proofs.Ytacedikpdmdodaa

theorem byte_wf {x : Int} (h : (Lit.int .u8 x).wf = true) : byteB x := by
  have h1 : IntKind.u8.min = 0 := rfl
  have h2 : IntKind.u8.max = 255 := rfl
  simp only [Lit.wf, h1, h2, Bool.and_eq_true, decide_eq_true_eq] at h
  exact h
theorem sea_rng {x : Season} (h : Kd.rng (.pair k61 (.pair k5 (.pair k62 k63))) x) : SeaOK x := by
  obtain ⟨h1, h2, h3, h4⟩ := h
  refine ⟨fun y hy => byte_wf (h1 y hy), byte_wf h2, fun y hy => ?_, fun y hy => ?_⟩
  · obtain ⟨g1, g2⟩ := h3 y hy
    exact ⟨byte_wf g1, byte_wf g2⟩
  · obtain ⟨g1, g2, g3, g4⟩ := h4 y hy
    exact ⟨byte_wf g1, byte_wf g2, byte_wf g3, byte_wf g4⟩
theorem uS65 : ∃ fs, Try.prog.underlying 65 = some (.struct fs) := ⟨_, rfl⟩
theorem fit65 : fitK Try.prog k65 (.ty 65) = true := by kernel_rfl
theorem uS61 : Try.prog.underlying 61 = some (.slice 5) := by kernel_rfl
theorem fit61 : fitK Try.prog k61 (.ty 61) = true := by kernel_rfl
theorem b5 : Try.prog.bytesOf 5 = 1 := by kernel_rfl
section
variable {H : Type} {enc : TypeId × Value → H} {W : World} {base b0 b1 b2 : Nat} {spare : Nat → Bool} {held : Bool} {v0 v1 v2 : Value} {d0 d1 d2 : DataW H} {p0 p1 p2 : List MemPlace}

theorem len61 {ts : List TypeId} {ds : List (DataW H)} (h : (DataW.weightsEach Try.prog ts ds).all (· ≤ reachBytes) = true) {j : Nat} (ht : ts[j]? = some 61) (hd : ds[j]? = some d1) (h1 : DataW.Trod enc Try.prog W base spare held 61 v1 d1 p1) {a : Option Addr} {n c : Nat} (hv : v1 = .slice a n c) : n ≤ 140737488351232 := by
  subst hv
  obtain ⟨fuel, h1⟩ := h1
  rcases DataW.trod_slice uS61 h1 with ⟨e, _⟩ | ⟨a', len, cap, elems, rest, m, _, e, ex, _, _, _, hl, _⟩
  · cases e; omega
  · cases e
    have ed : d1 = .slice (elems.map (·.1)) (rest.map (·.1)) := congrArg Prod.fst ex
    subst ed
    have := sized_slice h ht hd uS61
    rw [b5] at this
    have hr : reachBytes = 140737488351232 := rfl
    rw [hr, List.length_map] at this
    omega
theorem lawD {f : FuncId} {ct : Ct} (hA : ct = ⟨arg2 k65 k61, .unit, .bool, f13_wp, false, false⟩) (ok : ∀ [Inhabited BaseD], CallsOK Try.prog (assoc glT) f ct)
    (o0 : Value.okWide Try.prog W .any b0 65 v0) (h0 : DataW.Trod enc Try.prog W base spare held 65 v0 d0 p0) (o1 : Value.okWide Try.prog W .any b1 61 v1) (h1 : DataW.Trod enc Try.prog W base spare held 61 v1 d1 p1)
    (hn : ∀ a n c, v1 = .slice a n c → n ≤ 140737488351232) :
    Calls Try.prog f #[v0, v1] W fun e W' => e = .returned (.bool true) ∧ Below W.heap.size W W' := by
  subst hA
  obtain ⟨fs, hu⟩ := uS65
  letI := atW W
  obtain ⟨x, hx, rx⟩ := arg_agg (K := .pair k61 (.pair k5 (.pair k62 k63))) hu fit65 o0 h0
  obtain ⟨t, ht, rt⟩ := arg_sl uS61 fit61 o1 h1
  have hlen : (show List Int from t).length ≤ 140737488351232 := by
    obtain ⟨A, c, e, _⟩ := ht
    exact hn _ _ _ e
  have := ok.calls (fun _ => False) W (x, t, ()) () [v0, v1] [] (fun _ h => h.elim) (glb11 W) ⟨v0, [v1], rfl, hx, v1, [], rfl, ht, rfl⟩ rfl (fun r => r = true) ⟨⟨sea_rng rx, fun y hy => byte_wf (rt y hy), hlen⟩, rfl⟩
  refine this.mono fun e W' h => ?_
  obtain ⟨r, v, he, hv, hb, hr⟩ := h
  have hv : v = .bool r := hv
  subst hr
  exact ⟨by rw [he, hv], belowOf hb⟩
end
end Go.Proofs.Fa
set_option maxRecDepth 100000
set_option linter.unusedVariables false
namespace Go.Proofs.Fa
open Go Go.GX Go.Proofs Go.RowKit Go.Shelf
theorem u142 : ∃ f0 f1 : Field, Try.prog.underlying 142 = some (.struct (Try.prog.fieldsOf 142)) ∧ Try.prog.fieldsOf 142 = #[f0, f1] ∧ f0.offset = 0 ∧ f1.offset = 1 ∧ f0.type = 3 ∧ f1.type = 97 ∧ (f0.name ≠ "_") ∧ (f1.name ≠ "_") := ⟨_, _, rfl, rfl, rfl, rfl, rfl, rfl, by decide, by decide⟩
theorem u97 : Try.prog.underlying 97 = some (.array 4 3) := by kernel_rfl
theorem u3 : Try.prog.underlying 3 = some (.int .i64) := by kernel_rfl
theorem st142 : Try.prog.stoodInHeld 142 = false := by kernel_rfl
theorem c3 : Try.prog.cellsOf 3 = 1 := by kernel_rfl
theorem c97 : Try.prog.cellsOf 97 = 4 := by kernel_rfl
theorem i3 : ∃ i, Try.prog.info? 3 = some i := ⟨_, rfl⟩
theorem i97 : ∃ i, Try.prog.info? 97 = some i := ⟨_, rfl⟩

def kc (k : Int × FansT) : Array Value := #[.int .i64 k.1, .int .i64 k.2.1, .int .i64 k.2.2.1, .int .i64 k.2.2.2.1, .int .i64 k.2.2.2.2]
theorem kc_eq (k : Int × FansT) : (memoKeyK.fc k).toArray = kc k := rfl
theorem isAgg3 (W : World) : (isAgg 3).run Try.prog W = .ok false W := by simp [isAgg, run_underlying u3]
theorem isAgg97 (W : World) : (isAgg 97).run Try.prog W = .ok true W := by simp [isAgg, run_underlying u97]
theorem part3 {cs : Array Value} {i : Nat} {v : Value} (h : cs[i]? = some v) (W : World) : (part 3 cs i).run Try.prog W = .ok v W := by
  simp [part, isAgg3, h]
theorem part97 (cs : Array Value) (i : Nat) (W : World) : (part 97 cs i).run Try.prog W = .ok (.agg (cs.extract i (i + 4))) W := by
  obtain ⟨i', hi⟩ := i97
  simp [part, isAgg97, run_sizeOf W hi, c97]
theorem chk3 (em : Bool) (n : Nat) (v : Int) (W : World) : (Instr.checkKey em (n + 1) 3 (.int .i64 v)).run Try.prog W = .ok () W := by
  simp [Instr.checkKey, run_underlying u3]
theorem chk97 (em : Bool) (n : Nat) (a b c d : Int) (W : World) : (Instr.checkKey em (n + 2) 97 (.agg #[.int .i64 a, .int .i64 b, .int .i64 c, .int .i64 d])).run Try.prog W = .ok () W := by
  obtain ⟨i', hi⟩ := i3
  simp [Instr.checkKey, run_underlying u97, run_sizeOf W hi, c3, Std.Legacy.Range.forIn_eq_forIn_range', Std.Legacy.Range.size, List.range', part3, run_underlying u3]
theorem chk142 (em : Bool) (k : Int × FansT) (W : World) : (Instr.checkKey em 10000 142 (.agg (memoKeyK.fc k).toArray)).run Try.prog W = .ok () W := by
  obtain ⟨f0, f1, hu, hf, o0, o1, t0, t1, n0, n1⟩ := u142
  rw [kc_eq]
  have hu2 : Try.prog.underlying 142 = some (.struct #[f0, f1]) := by rw [hu, hf]
  have e1 : (kc k).extract 1 5 = #[.int .i64 k.2.1, .int .i64 k.2.2.1, .int .i64 k.2.2.2.1, .int .i64 k.2.2.2.2] := by simp [kc]
  have e0 : (kc k)[0]? = some (.int .i64 k.1) := rfl
  have h1 := chk97 em 9997 k.2.1 k.2.2.1 k.2.2.2.1 k.2.2.2.2 W
  show (Instr.checkKey em (9999 + 1) 142 (.agg (kc k))).run Try.prog W = _
  rw [Instr.checkKey]
  simp only [Sem.run_bind, run_underlying hu2, Result.andThen_ok]
  rw [← Array.forIn_toList]
  simp only [List.forIn_cons, List.forIn_nil, Sem.run_bind, n0, n1, ne_eq, not_false_eq_true, if_true, t0, t1, o0, o1, part3 e0, Result.andThen_ok, part97, e1]
  have h0 := chk3 em 9998 k.1 W
  simp only [Nat.reduceAdd] at h0 h1
  simp [h0, part97, e1, h1]

def keq (k k' : Int × FansT) : Bool := k.1 == k'.1 && (k.2.1 == k'.2.1 && (k.2.2.1 == k'.2.2.1 && (k.2.2.2.1 == k'.2.2.2.1 && k.2.2.2.2 == k'.2.2.2.2)))
theorem keq_iff {k k' : Int × FansT} : keq k k' = true ↔ k = k' := by
  obtain ⟨a, b, c, d, e⟩ := k
  obtain ⟨a', b', c', d', e'⟩ := k'
  simp [keq]
theorem eq97 (n : Nat) (a b c d a' b' c' d' : Int) (W : World) : (Op.equalIn (n + 2) 97 (.agg #[.int .i64 a, .int .i64 b, .int .i64 c, .int .i64 d]) (.agg #[.int .i64 a', .int .i64 b', .int .i64 c', .int .i64 d'])).run Try.prog W = .ok (a == a' && (b == b' && (c == c' && d == d'))) W := by
  obtain ⟨i', hi⟩ := i3
  obtain ⟨xs, hxs⟩ : ∃ xs : Array Value, xs = #[.int .i64 a, .int .i64 b, .int .i64 c, .int .i64 d] := ⟨_, rfl⟩
  obtain ⟨ys, hys⟩ : ∃ ys : Array Value, ys = #[.int .i64 a', .int .i64 b', .int .i64 c', .int .i64 d'] := ⟨_, rfl⟩
  rw [← hxs, ← hys, run_equalIn_array W (n + 1) _ _ u97 hi, c3]
  show (Op.eqItems (n + 1) 3 1 _ _ [0, 1, 2, 3]).run Try.prog W = _
  have x0 : ∀ W, (part 3 xs (0 * 1)).run Try.prog W = .ok (.int .i64 a) W := part3 (by rw [hxs]; rfl)
  have x1 : ∀ W, (part 3 xs (1 * 1)).run Try.prog W = .ok (.int .i64 b) W := part3 (by rw [hxs]; rfl)
  have x2 : ∀ W, (part 3 xs (2 * 1)).run Try.prog W = .ok (.int .i64 c) W := part3 (by rw [hxs]; rfl)
  have x3 : ∀ W, (part 3 xs (3 * 1)).run Try.prog W = .ok (.int .i64 d) W := part3 (by rw [hxs]; rfl)
  have y0 : ∀ W, (part 3 ys (0 * 1)).run Try.prog W = .ok (.int .i64 a') W := part3 (by rw [hys]; rfl)
  have y1 : ∀ W, (part 3 ys (1 * 1)).run Try.prog W = .ok (.int .i64 b') W := part3 (by rw [hys]; rfl)
  have y2 : ∀ W, (part 3 ys (2 * 1)).run Try.prog W = .ok (.int .i64 c') W := part3 (by rw [hys]; rfl)
  have y3 : ∀ W, (part 3 ys (3 * 1)).run Try.prog W = .ok (.int .i64 d') W := part3 (by rw [hys]; rfl)
  have e : ∀ (x y : Int) W, (Op.equalIn (n + 1) 3 (.int .i64 x) (.int .i64 y)).run Try.prog W = .ok (x == y) W := fun x y W => run_equalIn_int W n 3 .i64 .i64 x y u3
  simp only [Op.eqItems, Sem.run_bind, x0, x1, x2, x3, y0, y1, y2, y3, e, Result.andThen_ok]
  cases h1 : a == a' <;> simp only [Bool.not_true, Bool.not_false, Bool.false_eq_true, if_true, if_false, Sem.run_pure, Bool.false_and, Bool.true_and, Sem.run_bind, x1, y1, e, Result.andThen_ok]
  cases h2 : b == b' <;> simp only [Bool.not_true, Bool.not_false, Bool.false_eq_true, if_true, if_false, Sem.run_pure, Bool.false_and, Bool.true_and, Sem.run_bind, x2, y2, e, Result.andThen_ok]
  cases h3 : c == c' <;> simp only [Bool.not_true, Bool.not_false, Bool.false_eq_true, if_true, if_false, Sem.run_pure, Bool.false_and, Bool.true_and, Sem.run_bind, x3, y3, e, Result.andThen_ok]
  cases h4 : d == d' <;> simp only [Bool.not_true, Bool.not_false, Bool.false_eq_true, if_true, if_false, Sem.run_pure]
theorem eq142 (k k' : Int × FansT) (W : World) : (Op.equal 142 (.agg (kc k)) (.agg (kc k'))).run Try.prog W = .ok (keq k k') W := by
  obtain ⟨f0, f1, hu, hf, o0, o1, t0, t1, n0, n1⟩ := u142
  show (Op.equalIn (9999 + 1) 142 _ _).run Try.prog W = _
  rw [run_equalIn_struct W 9999 142 _ _ hu st142, hf]
  have e1 : ∀ k, (kc k).extract 1 5 = #[.int .i64 k.2.1, .int .i64 k.2.2.1, .int .i64 k.2.2.2.1, .int .i64 k.2.2.2.2] := fun k => by simp [kc]
  have e0 : ∀ k, (kc k)[0]? = some (.int .i64 k.1) := fun k => rfl
  have h0 := run_equalIn_int W 9998 3 .i64 .i64 k.1 k'.1 u3
  have h1 := eq97 9997 k.2.1 k.2.2.1 k.2.2.2.1 k.2.2.2.2 k'.2.1 k'.2.2.1 k'.2.2.2.1 k'.2.2.2.2 W
  simp only [Nat.reduceAdd] at h0 h1
  simp only [Op.eqFields, n0, n1, ne_eq, not_false_eq_true, if_true, Sem.run_bind, t0, t1, o0, o1, part3 (e0 _), part97, e1, Result.andThen_ok, h0]
  cases hh : k.1 == k'.1
  · simp [keq, hh]
  · simp only [Bool.not_true, Bool.false_eq_true, if_false, Sem.run_bind, part97, Result.andThen_ok, e1, h1]
    simp only [keq, hh, Bool.true_and]
    cases (k.2.1 == k'.2.1 && (k.2.2.1 == k'.2.2.1 && (k.2.2.2.1 == k'.2.2.2.1 && k.2.2.2.2 == k'.2.2.2.2))) <;> simp [Op.eqFields]
theorem findNow142 (k : Value) (fs : Array Field) : ∀ (e : MapEntry) (es : List MapEntry) (i : Nat), Instr.findNow (.struct fs) k (e :: es) i = none := fun e es i => by
  simp [Instr.findNow, Instr.sameNow]
theorem ask142 (k : Int × FansT) : ∀ (es : List MapEntry) (i : Nat) (W : World), (∀ e ∈ es, ∃ k' val, e.key = .agg (memoKeyK.fc k').toArray ∧ e.val = .int .i64 val) →
    ((Instr.findAsking 142 (.agg (kc k)) es i).run Try.prog W = .ok none W) ∨ ∃ j e, (Instr.findAsking 142 (.agg (kc k)) es i).run Try.prog W = .ok (some (i + j, e.val)) W ∧ es[j]? = some e ∧ e.key = .agg (kc k)
  | [], i, W, _ => .inl (by simp [Instr.findAsking])
  | e :: es, i, W, h => by
    obtain ⟨k', val, hk, hv⟩ := h e (by simp)
    have hk : e.key = .agg (kc k') := hk
    have hq' : (Op.equal 142 (.agg (kc k)) (.agg (kc k'))).run Try.prog W = .ok (keq k k') W := eq142 k k' W
    simp only [Instr.findAsking, Sem.run_bind, hk, Result.andThen_ok]
    rw [hq']
    simp only [Result.andThen_ok]
    cases hq : keq k k' with
    | true =>
      right
      refine ⟨0, e, by simp, rfl, ?_⟩
      rw [hk, keq_iff.1 hq]
    | false =>
      rcases ask142 k es (i + 1) W (fun e he => h e (by simp [he])) with h1 | ⟨j, e', h1, h2, h3⟩
      · left; simpa using h1
      · right
        refine ⟨j + 1, e', ?_, by simpa using h2, h3⟩
        rw [show i + (j + 1) = i + 1 + j by omega]
        simpa using h1
variable [Inhabited BaseD]
theorem key_ok : KeyOK Try.prog 138 (142, 3) where
  u := by kernel_rfl
  check := fun w em k => chk142 em k w
  find := fun w k es h => by
    obtain ⟨f0, f1, hu, hf, _⟩ := u142
    show ((Instr.findKey 142 (.agg (kc k)) es).run Try.prog w = .ok none w) ∨ ∃ j e, (Instr.findKey 142 (.agg (kc k)) es).run Try.prog w = .ok (some (j, e.val)) w ∧ es[j]? = some e ∧ e.key = .agg (kc k)
    cases es with
    | nil => left; simp [Instr.findKey, run_underlying hu, Instr.findNow]
    | cons e es =>
      have := ask142 k (e :: es) 0 w h
      simp only [Nat.zero_add] at this
      simpa only [Instr.findKey, Sem.run_bind, run_underlying hu, Result.andThen_ok, findNow142] using this
  stays := fun w k => by
    show (Instr.keyThatStays (.agg (kc k)) (.agg (kc k))).run Try.prog w = .ok (.agg (kc k)) w
    simp [Instr.keyThatStays, Instr.sameBits, kc]
  zero := fun w => by
    have h : (Try.prog.info? 3).bind (·.zero) = some (.int .i64 0) := by kernel_rfl
    obtain ⟨i, hi⟩ := i3
    rw [hi] at h
    have h : i.zero = some (.int .i64 0) := h
    simp [zeroValue, run_typeInfo w hi, h]
theorem mp_ok : AllMp Try.prog mpT := AllMp.cons key_ok AllMp.nil
end Go.Proofs.Fa
set_option linter.unusedVariables false
set_option maxRecDepth 100000
namespace Go.Proofs.Fa
open Go Go.GX Go.Proofs

def V88 (l : Nat) (f : FansT) (xs : List FansT) : Prop := ∃ (I : List FansT → Int × Int × Int × Int → Prop), ∃ (μ : Int × Int × Int × Int → Nat), I ([] : List FansT) ((0 : Int), (0 : Int), (0 : Int), (0 : Int)) ∧ ∀ (g : List FansT) (x : Int × Int × Int × Int), I g x → Value.func (Fn.yield l) (List.toArray ([] : List Value)) (List.toArray ([] : List Value)) = Value.func (Fn.yield l) (List.toArray ([] : List Value)) (List.toArray ([] : List Value)) ∧ ∃ (rest : List FansT), xs = g ++ (x.1, x.2.1, x.2.2.1, x.2.2.2) :: rest ∧ (∃ (I_1 : List FansT → Int → Int × Int × Int × Int → Prop), ∃ (μ_1 : Int → Int × Int × Int × Int → Nat), I_1 (g ++ (x.1, x.2.1, x.2.2.1, x.2.2.2) :: ([] : List FansT)) (0 : Int) (x.1, x.2.1, x.2.2.1, x.2.2.2) ∧ ∀ (g : List FansT) (x_1 : Int) (x_2 : Int × Int × Int × Int), I_1 g x_1 x_2 → cnd (decide (x_1 < (4 : Int))) ((0 : Int) ≤ x_1 ∧ x_1 < (↑(4 : Nat) : Int) ∧ (0 : Int) ≤ x_1 ∧ x_1 < (↑(4 : Nat) : Int) ∧ cnd (List.getD (l4 x_2) (Int.toNat x_1) x_2.1 == List.getD (l4 f) (Int.toNat x_1) f.1) ((0 : Int) ≤ x_1 ∧ x_1 < (↑(4 : Nat) : Int) ∧ I_1 g (IntKind.wrap IntKind.i64 (x_1 + (1 : Int))) (List.getD (List.set (l4 x_2) (Int.toNat x_1) (0 : Int)) (nat_lit 0) (0 : Int), List.getD (List.set (l4 x_2) (Int.toNat x_1) (0 : Int)) (nat_lit 1) (0 : Int), List.getD (List.set (l4 x_2) (Int.toNat x_1) (0 : Int)) (nat_lit 2) (0 : Int), List.getD (List.set (l4 x_2) (Int.toNat x_1) (0 : Int)) (nat_lit 3) (0 : Int)) ∧ μ_1 (IntKind.wrap IntKind.i64 (x_1 + (1 : Int))) (List.getD (List.set (l4 x_2) (Int.toNat x_1) (0 : Int)) (nat_lit 0) (0 : Int), List.getD (List.set (l4 x_2) (Int.toNat x_1) (0 : Int)) (nat_lit 1) (0 : Int), List.getD (List.set (l4 x_2) (Int.toNat x_1) (0 : Int)) (nat_lit 2) (0 : Int), List.getD (List.set (l4 x_2) (Int.toNat x_1) (0 : Int)) (nat_lit 3) (0 : Int)) < μ_1 x_1 x_2) (cnd (x_1 == (4 : Int)) (g = xs) ((0 : Int) ≤ x_1 ∧ x_1 < (↑(4 : Nat) : Int) ∧ (0 : Int) ≤ x_1 ∧ x_1 < (↑(4 : Nat) : Int) ∧ I g (List.getD (List.set (l4 x_2) (Int.toNat x_1) (IntKind.wrap IntKind.i64 (List.getD (l4 x_2) (Int.toNat x_1) x_2.1 + (1 : Int)))) (nat_lit 0) (IntKind.wrap IntKind.i64 (List.getD (l4 x_2) (Int.toNat x_1) x_2.1 + (1 : Int))), List.getD (List.set (l4 x_2) (Int.toNat x_1) (IntKind.wrap IntKind.i64 (List.getD (l4 x_2) (Int.toNat x_1) x_2.1 + (1 : Int)))) (nat_lit 1) (IntKind.wrap IntKind.i64 (List.getD (l4 x_2) (Int.toNat x_1) x_2.1 + (1 : Int))), List.getD (List.set (l4 x_2) (Int.toNat x_1) (IntKind.wrap IntKind.i64 (List.getD (l4 x_2) (Int.toNat x_1) x_2.1 + (1 : Int)))) (nat_lit 2) (IntKind.wrap IntKind.i64 (List.getD (l4 x_2) (Int.toNat x_1) x_2.1 + (1 : Int))), List.getD (List.set (l4 x_2) (Int.toNat x_1) (IntKind.wrap IntKind.i64 (List.getD (l4 x_2) (Int.toNat x_1) x_2.1 + (1 : Int)))) (nat_lit 3) (IntKind.wrap IntKind.i64 (List.getD (l4 x_2) (Int.toNat x_1) x_2.1 + (1 : Int)))) ∧ μ (List.getD (List.set (l4 x_2) (Int.toNat x_1) (IntKind.wrap IntKind.i64 (List.getD (l4 x_2) (Int.toNat x_1) x_2.1 + (1 : Int)))) (nat_lit 0) (IntKind.wrap IntKind.i64 (List.getD (l4 x_2) (Int.toNat x_1) x_2.1 + (1 : Int))), List.getD (List.set (l4 x_2) (Int.toNat x_1) (IntKind.wrap IntKind.i64 (List.getD (l4 x_2) (Int.toNat x_1) x_2.1 + (1 : Int)))) (nat_lit 1) (IntKind.wrap IntKind.i64 (List.getD (l4 x_2) (Int.toNat x_1) x_2.1 + (1 : Int))), List.getD (List.set (l4 x_2) (Int.toNat x_1) (IntKind.wrap IntKind.i64 (List.getD (l4 x_2) (Int.toNat x_1) x_2.1 + (1 : Int)))) (nat_lit 2) (IntKind.wrap IntKind.i64 (List.getD (l4 x_2) (Int.toNat x_1) x_2.1 + (1 : Int))), List.getD (List.set (l4 x_2) (Int.toNat x_1) (IntKind.wrap IntKind.i64 (List.getD (l4 x_2) (Int.toNat x_1) x_2.1 + (1 : Int)))) (nat_lit 3) (IntKind.wrap IntKind.i64 (List.getD (l4 x_2) (Int.toNat x_1) x_2.1 + (1 : Int)))) < μ x))) (cnd (x_1 == (4 : Int)) (g = xs) ((0 : Int) ≤ x_1 ∧ x_1 < (↑(4 : Nat) : Int) ∧ (0 : Int) ≤ x_1 ∧ x_1 < (↑(4 : Nat) : Int) ∧ I g (List.getD (List.set (l4 x_2) (Int.toNat x_1) (IntKind.wrap IntKind.i64 (List.getD (l4 x_2) (Int.toNat x_1) x_2.1 + (1 : Int)))) (nat_lit 0) (IntKind.wrap IntKind.i64 (List.getD (l4 x_2) (Int.toNat x_1) x_2.1 + (1 : Int))), List.getD (List.set (l4 x_2) (Int.toNat x_1) (IntKind.wrap IntKind.i64 (List.getD (l4 x_2) (Int.toNat x_1) x_2.1 + (1 : Int)))) (nat_lit 1) (IntKind.wrap IntKind.i64 (List.getD (l4 x_2) (Int.toNat x_1) x_2.1 + (1 : Int))), List.getD (List.set (l4 x_2) (Int.toNat x_1) (IntKind.wrap IntKind.i64 (List.getD (l4 x_2) (Int.toNat x_1) x_2.1 + (1 : Int)))) (nat_lit 2) (IntKind.wrap IntKind.i64 (List.getD (l4 x_2) (Int.toNat x_1) x_2.1 + (1 : Int))), List.getD (List.set (l4 x_2) (Int.toNat x_1) (IntKind.wrap IntKind.i64 (List.getD (l4 x_2) (Int.toNat x_1) x_2.1 + (1 : Int)))) (nat_lit 3) (IntKind.wrap IntKind.i64 (List.getD (l4 x_2) (Int.toNat x_1) x_2.1 + (1 : Int)))) ∧ μ (List.getD (List.set (l4 x_2) (Int.toNat x_1) (IntKind.wrap IntKind.i64 (List.getD (l4 x_2) (Int.toNat x_1) x_2.1 + (1 : Int)))) (nat_lit 0) (IntKind.wrap IntKind.i64 (List.getD (l4 x_2) (Int.toNat x_1) x_2.1 + (1 : Int))), List.getD (List.set (l4 x_2) (Int.toNat x_1) (IntKind.wrap IntKind.i64 (List.getD (l4 x_2) (Int.toNat x_1) x_2.1 + (1 : Int)))) (nat_lit 1) (IntKind.wrap IntKind.i64 (List.getD (l4 x_2) (Int.toNat x_1) x_2.1 + (1 : Int))), List.getD (List.set (l4 x_2) (Int.toNat x_1) (IntKind.wrap IntKind.i64 (List.getD (l4 x_2) (Int.toNat x_1) x_2.1 + (1 : Int)))) (nat_lit 2) (IntKind.wrap IntKind.i64 (List.getD (l4 x_2) (Int.toNat x_1) x_2.1 + (1 : Int))), List.getD (List.set (l4 x_2) (Int.toNat x_1) (IntKind.wrap IntKind.i64 (List.getD (l4 x_2) (Int.toNat x_1) x_2.1 + (1 : Int)))) (nat_lit 3) (IntKind.wrap IntKind.i64 (List.getD (l4 x_2) (Int.toNat x_1) x_2.1 + (1 : Int)))) < μ x))) ∧ True
theorem V88E (l : Nat) (f : FansT) (xs : List FansT) : V88 l f xs = (f88v_ct l f xs) := by kernel_rfl

def V82 (n : Nat) (p : Pk) (i : Int) (f : FansT) (Q : Int → Prop) : Prop := cnd (i == (↑(List.length p.1) : Int)) (cnd (f.1 == (0 : Int) && (f.2.1 == (0 : Int) && (f.2.2.1 == (0 : Int) && (f.2.2.2 == (0 : Int) && true)))) (Q (0 : Int)) (Q (1099511627776 : Int))) (∀ (n_1 : Int) (has : Bool), (has = true → memoSpec p.2 (i, f.1, f.2.1, f.2.2.1, f.2.2.2) n_1) → cnd has (Q n_1) ((((0 : Int) ≤ f.1 ∧ f.1 ≤ (1000 : Int)) ∧ ((0 : Int) ≤ f.2.1 ∧ f.2.1 ≤ (1000 : Int)) ∧ ((0 : Int) ≤ f.2.2.1 ∧ f.2.2.1 ≤ (1000 : Int)) ∧ (0 : Int) ≤ f.2.2.2 ∧ f.2.2.2 ≤ (1000 : Int)) ∧ ∃ (I : List FansT → Int → Prop), I ([] : List FansT) (1099511627776 : Int) ∧ (∀ (pre : List FansT) (x : Int × Int × Int × Int) (rest : List FansT), Fa.upTo (f.1, f.2.1, f.2.2.1, f.2.2.2) = pre ++ x :: rest → ∀ (x_1 : Int), I pre x_1 → (0 : Int) ≤ i ∧ i < (↑(List.length p.1) : Int) ∧ f97_wp (((Prod.fst (Prod.fst (List.getD p.1 (Int.toNat i) (((0 : Int), (0 : Int), (0 : Int), (0 : Int)), ((0 : Int), (0 : Int), (0 : Int), (0 : Int)), (0 : Int), (0 : Int)))), Prod.fst (Prod.snd (Prod.fst (List.getD p.1 (Int.toNat i) (((0 : Int), (0 : Int), (0 : Int), (0 : Int)), ((0 : Int), (0 : Int), (0 : Int), (0 : Int)), (0 : Int), (0 : Int))))), Prod.fst (Prod.snd (Prod.snd (Prod.fst (List.getD p.1 (Int.toNat i) (((0 : Int), (0 : Int), (0 : Int), (0 : Int)), ((0 : Int), (0 : Int), (0 : Int), (0 : Int)), (0 : Int), (0 : Int)))))), Prod.snd (Prod.snd (Prod.snd (Prod.fst (List.getD p.1 (Int.toNat i) (((0 : Int), (0 : Int), (0 : Int), (0 : Int)), ((0 : Int), (0 : Int), (0 : Int), (0 : Int)), (0 : Int), (0 : Int))))))), (Prod.fst (Prod.fst (Prod.snd (List.getD p.1 (Int.toNat i) (((0 : Int), (0 : Int), (0 : Int), (0 : Int)), ((0 : Int), (0 : Int), (0 : Int), (0 : Int)), (0 : Int), (0 : Int))))), Prod.fst (Prod.snd (Prod.fst (Prod.snd (List.getD p.1 (Int.toNat i) (((0 : Int), (0 : Int), (0 : Int), (0 : Int)), ((0 : Int), (0 : Int), (0 : Int), (0 : Int)), (0 : Int), (0 : Int)))))), Prod.fst (Prod.snd (Prod.snd (Prod.fst (Prod.snd (List.getD p.1 (Int.toNat i) (((0 : Int), (0 : Int), (0 : Int), (0 : Int)), ((0 : Int), (0 : Int), (0 : Int), (0 : Int)), (0 : Int), (0 : Int))))))), Prod.snd (Prod.snd (Prod.snd (Prod.fst (Prod.snd (List.getD p.1 (Int.toNat i) (((0 : Int), (0 : Int), (0 : Int), (0 : Int)), ((0 : Int), (0 : Int), (0 : Int), (0 : Int)), (0 : Int), (0 : Int)))))))), Prod.fst (Prod.snd (Prod.snd (List.getD p.1 (Int.toNat i) (((0 : Int), (0 : Int), (0 : Int), (0 : Int)), ((0 : Int), (0 : Int), (0 : Int), (0 : Int)), (0 : Int), (0 : Int))))), Prod.snd (Prod.snd (Prod.snd (List.getD p.1 (Int.toNat i) (((0 : Int), (0 : Int), (0 : Int), (0 : Int)), ((0 : Int), (0 : Int), (0 : Int), (0 : Int)), (0 : Int), (0 : Int)))))), (x.1, x.2.1, x.2.2.1, x.2.2.2), ()) () fun (r : Bool) ↦ cnd r (∃ (r : Int), (f98_wp (((Prod.fst (Prod.fst (List.getD p.1 (Int.toNat i) (((0 : Int), (0 : Int), (0 : Int), (0 : Int)), ((0 : Int), (0 : Int), (0 : Int), (0 : Int)), (0 : Int), (0 : Int)))), Prod.fst (Prod.snd (Prod.fst (List.getD p.1 (Int.toNat i) (((0 : Int), (0 : Int), (0 : Int), (0 : Int)), ((0 : Int), (0 : Int), (0 : Int), (0 : Int)), (0 : Int), (0 : Int))))), Prod.fst (Prod.snd (Prod.snd (Prod.fst (List.getD p.1 (Int.toNat i) (((0 : Int), (0 : Int), (0 : Int), (0 : Int)), ((0 : Int), (0 : Int), (0 : Int), (0 : Int)), (0 : Int), (0 : Int)))))), Prod.snd (Prod.snd (Prod.snd (Prod.fst (List.getD p.1 (Int.toNat i) (((0 : Int), (0 : Int), (0 : Int), (0 : Int)), ((0 : Int), (0 : Int), (0 : Int), (0 : Int)), (0 : Int), (0 : Int))))))), (Prod.fst (Prod.fst (Prod.snd (List.getD p.1 (Int.toNat i) (((0 : Int), (0 : Int), (0 : Int), (0 : Int)), ((0 : Int), (0 : Int), (0 : Int), (0 : Int)), (0 : Int), (0 : Int))))), Prod.fst (Prod.snd (Prod.fst (Prod.snd (List.getD p.1 (Int.toNat i) (((0 : Int), (0 : Int), (0 : Int), (0 : Int)), ((0 : Int), (0 : Int), (0 : Int), (0 : Int)), (0 : Int), (0 : Int)))))), Prod.fst (Prod.snd (Prod.snd (Prod.fst (Prod.snd (List.getD p.1 (Int.toNat i) (((0 : Int), (0 : Int), (0 : Int), (0 : Int)), ((0 : Int), (0 : Int), (0 : Int), (0 : Int)), (0 : Int), (0 : Int))))))), Prod.snd (Prod.snd (Prod.snd (Prod.fst (Prod.snd (List.getD p.1 (Int.toNat i) (((0 : Int), (0 : Int), (0 : Int), (0 : Int)), ((0 : Int), (0 : Int), (0 : Int), (0 : Int)), (0 : Int), (0 : Int)))))))), Prod.fst (Prod.snd (Prod.snd (List.getD p.1 (Int.toNat i) (((0 : Int), (0 : Int), (0 : Int), (0 : Int)), ((0 : Int), (0 : Int), (0 : Int), (0 : Int)), (0 : Int), (0 : Int))))), Prod.snd (Prod.snd (Prod.snd (List.getD p.1 (Int.toNat i) (((0 : Int), (0 : Int), (0 : Int), (0 : Int)), ((0 : Int), (0 : Int), (0 : Int), (0 : Int)), (0 : Int), (0 : Int)))))), (x.1, x.2.1, x.2.2.1, x.2.2.2), ()) () fun (r' : Int) ↦ r' = r) ∧ ∃ (r_1 : Int × Int × Int × Int), (f99_wp ((f.1, f.2.1, f.2.2.1, f.2.2.2), (x.1, x.2.1, x.2.2.1, x.2.2.2), ()) () fun (r' : Int × Int × Int × Int) ↦ r' = r_1) ∧ ∃ (r_2 : Int), (f82n_wp n (p, IntKind.wrap IntKind.i64 (i + (1 : Int)), (r_1.1, r_1.2.1, r_1.2.2.1, r_1.2.2.2), ()) () fun (r' : Int) ↦ r' = r_2) ∧ I (pre ++ x :: ([] : List FansT)) (mnI x_1 (IntKind.wrap IntKind.i64 (r + r_2)))) (I (pre ++ x :: ([] : List FansT)) x_1)) ∧ ∀ (x : Int), I (Fa.upTo (f.1, f.2.1, f.2.2.1, f.2.2.2)) x → memoSpec p.2 (i, f.1, f.2.1, f.2.2.1, f.2.2.2) x ∧ Q x))
theorem V82E (n : Nat) (p : Pk) (i : Int) (f : FansT) (Q : Int → Prop) : V82 n p i f Q = (vcFunc (S0 [(82, f82n_ct n), (97, f97_ct), (98, f98_ct), (99, f99_ct)] []) false false f82_an Try.f82 (bodyOf Try.f82) (arg3 k119 k3 k97) .unit k3 (p, i, f, ()) () Q) := by kernel_rfl

end Go.Proofs.Fa
set_option linter.unusedVariables false
set_option maxRecDepth 100000
namespace Go.Proofs.Fa
open Go Go.GX Go.Proofs

def V80 (f : Int × Int × Int × Int) (Q : Int → Prop) : Prop := ∃ (I : Int → Int → Prop), ∃ (μ : Int → Int → Nat), I (0 : Int) (0 : Int) ∧ ∀ (x x_1 : Int), I x x_1 → cnd (decide (x < (4 : Int))) ((0 : Int) ≤ x ∧ x < (↑(4 : Nat) : Int) ∧ I (IntKind.wrap IntKind.i64 (x + (1 : Int))) (IntKind.wrap IntKind.i64 (x_1 + List.getD (l4 f) (Int.toNat x) f.1)) ∧ μ (IntKind.wrap IntKind.i64 (x + (1 : Int))) (IntKind.wrap IntKind.i64 (x_1 + List.getD (l4 f) (Int.toNat x) f.1)) < μ x x_1) (Q x_1)
theorem v80 (f : Int × Int × Int × Int) (Q : Int → Prop) : V80 f Q = vcFunc (S0 [] []) f80_ct.own f80_ct.fresh f80_an Try.f80 (bodyOf Try.f80) f80_ct.A f80_ct.C f80_ct.R f () Q := by kernel_rfl

def V105 (f : Int × Int × Int × Int) (Q : List Int → Prop) : Prop := ∃ (I : Int → List Int → Prop), ∃ (μ : Int → List Int → Nat), I (0 : Int) ([] : List Int) ∧ ∀ (x : Int) (x_1 : List Int), I x x_1 → cnd (decide (x < (4 : Int))) ((0 : Int) ≤ x ∧ x < (↑(4 : Nat) : Int) ∧ f107_wp (x :: ([] : List Int), List.getD (l4 f) (Int.toNat x) f.1, ()) () fun (r : List Int) ↦ (List.length x_1 + List.length r) * (8 : Nat) ≤ (140737488355328 : Nat) ∧ I (IntKind.wrap IntKind.i64 (x + (1 : Int))) (x_1 ++ r) ∧ μ (IntKind.wrap IntKind.i64 (x + (1 : Int))) (x_1 ++ r) < μ x x_1) (Q x_1)
theorem v105 (f : Int × Int × Int × Int) (Q : List Int → Prop) : V105 f Q = vcFunc (S0 [(107, f107_ct)] []) f105_ct.own f105_ct.fresh f105_an Try.f105 (bodyOf Try.f105) f105_ct.A f105_ct.C f105_ct.R f () Q := by kernel_rfl

def V97 (b : FansT × FansT × Int × Int) (f : Int × Int × Int × Int) (Q : Bool → Prop) : Prop := ∃ (I : Int → Int → Prop), ∃ (μ : Int → Int → Nat), I (0 : Int) (0 : Int) ∧ ∀ (x x_1 : Int), I x x_1 → cnd (decide (x < (4 : Int))) ((0 : Int) ≤ x ∧ x < (↑(4 : Nat) : Int) ∧ (0 : Int) ≤ x ∧ x < (↑(4 : Nat) : Int) ∧ I (IntKind.wrap IntKind.i64 (x + (1 : Int))) (IntKind.wrap IntKind.i64 (x_1 + IntKind.wrap IntKind.i64 (List.getD (l4 f) (Int.toNat x) f.1 * List.getD (l4 b.1) (Int.toNat x) b.1.1))) ∧ μ (IntKind.wrap IntKind.i64 (x + (1 : Int))) (IntKind.wrap IntKind.i64 (x_1 + IntKind.wrap IntKind.i64 (List.getD (l4 f) (Int.toNat x) f.1 * List.getD (l4 b.1) (Int.toNat x) b.1.1))) < μ x x_1) (Q (decide (x_1 ≤ b.2.2.1)))
theorem v97 (b : FansT × FansT × Int × Int) (f : Int × Int × Int × Int) (Q : Bool → Prop) : V97 b f Q = vcFunc (S0 [] []) f97_ct.own f97_ct.fresh f97_an Try.f97 (bodyOf Try.f97) f97_ct.A f97_ct.C f97_ct.R (b, f, ()) () Q := by kernel_rfl

def V98 (b : FansT × FansT × Int × Int) (f : Int × Int × Int × Int) (Q : Int → Prop) : Prop := ∃ (I : Int → Int → Prop), ∃ (μ : Int → Int → Nat), I (0 : Int) (0 : Int) ∧ ∀ (x x_1 : Int), I x x_1 → cnd (decide (x < (4 : Int))) ((0 : Int) ≤ x ∧ x < (↑(4 : Nat) : Int) ∧ (0 : Int) ≤ x ∧ x < (↑(4 : Nat) : Int) ∧ I (IntKind.wrap IntKind.i64 (x + (1 : Int))) (IntKind.wrap IntKind.i64 (x_1 + IntKind.wrap IntKind.i64 (List.getD (l4 f) (Int.toNat x) f.1 * List.getD (l4 b.2.1) (Int.toNat x) b.2.1.1))) ∧ μ (IntKind.wrap IntKind.i64 (x + (1 : Int))) (IntKind.wrap IntKind.i64 (x_1 + IntKind.wrap IntKind.i64 (List.getD (l4 f) (Int.toNat x) f.1 * List.getD (l4 b.2.1) (Int.toNat x) b.2.1.1))) < μ x x_1) (cnd (!(f.1 == (0 : Int) && (f.2.1 == (0 : Int) && (f.2.2.1 == (0 : Int) && (f.2.2.2 == (0 : Int) && true))))) (Q (IntKind.wrap IntKind.i64 (x_1 + b.2.2.2))) (Q x_1))
theorem v98 (b : FansT × FansT × Int × Int) (f : Int × Int × Int × Int) (Q : Int → Prop) : V98 b f Q = vcFunc (S0 [] []) f98_ct.own f98_ct.fresh f97_an Try.f98 (bodyOf Try.f98) f98_ct.A f98_ct.C f98_ct.R (b, f, ()) () Q := by kernel_rfl

def V99 (a : Int × Int × Int × Int) (b : Int × Int × Int × Int) (Q : Int × Int × Int × Int → Prop) : Prop := ∃ (I : Int → Int × Int × Int × Int → Prop), ∃ (μ : Int → Int × Int × Int × Int → Nat), I (0 : Int) (a.1, a.2.1, a.2.2.1, a.2.2.2) ∧ ∀ (x : Int) (x_1 : Int × Int × Int × Int), I x x_1 → cnd (decide (x < (4 : Int))) ((0 : Int) ≤ x ∧ x < (↑(4 : Nat) : Int) ∧ (0 : Int) ≤ x ∧ x < (↑(4 : Nat) : Int) ∧ (0 : Int) ≤ x ∧ x < (↑(4 : Nat) : Int) ∧ I (IntKind.wrap IntKind.i64 (x + (1 : Int))) (List.getD (List.set (l4 x_1) (Int.toNat x) (IntKind.wrap IntKind.i64 (List.getD (l4 x_1) (Int.toNat x) x_1.1 - List.getD (l4 b) (Int.toNat x) b.1))) (nat_lit 0) (IntKind.wrap IntKind.i64 (List.getD (l4 x_1) (Int.toNat x) x_1.1 - List.getD (l4 b) (Int.toNat x) b.1)), List.getD (List.set (l4 x_1) (Int.toNat x) (IntKind.wrap IntKind.i64 (List.getD (l4 x_1) (Int.toNat x) x_1.1 - List.getD (l4 b) (Int.toNat x) b.1))) (nat_lit 1) (IntKind.wrap IntKind.i64 (List.getD (l4 x_1) (Int.toNat x) x_1.1 - List.getD (l4 b) (Int.toNat x) b.1)), List.getD (List.set (l4 x_1) (Int.toNat x) (IntKind.wrap IntKind.i64 (List.getD (l4 x_1) (Int.toNat x) x_1.1 - List.getD (l4 b) (Int.toNat x) b.1))) (nat_lit 2) (IntKind.wrap IntKind.i64 (List.getD (l4 x_1) (Int.toNat x) x_1.1 - List.getD (l4 b) (Int.toNat x) b.1)), List.getD (List.set (l4 x_1) (Int.toNat x) (IntKind.wrap IntKind.i64 (List.getD (l4 x_1) (Int.toNat x) x_1.1 - List.getD (l4 b) (Int.toNat x) b.1))) (nat_lit 3) (IntKind.wrap IntKind.i64 (List.getD (l4 x_1) (Int.toNat x) x_1.1 - List.getD (l4 b) (Int.toNat x) b.1))) ∧ μ (IntKind.wrap IntKind.i64 (x + (1 : Int))) (List.getD (List.set (l4 x_1) (Int.toNat x) (IntKind.wrap IntKind.i64 (List.getD (l4 x_1) (Int.toNat x) x_1.1 - List.getD (l4 b) (Int.toNat x) b.1))) (nat_lit 0) (IntKind.wrap IntKind.i64 (List.getD (l4 x_1) (Int.toNat x) x_1.1 - List.getD (l4 b) (Int.toNat x) b.1)), List.getD (List.set (l4 x_1) (Int.toNat x) (IntKind.wrap IntKind.i64 (List.getD (l4 x_1) (Int.toNat x) x_1.1 - List.getD (l4 b) (Int.toNat x) b.1))) (nat_lit 1) (IntKind.wrap IntKind.i64 (List.getD (l4 x_1) (Int.toNat x) x_1.1 - List.getD (l4 b) (Int.toNat x) b.1)), List.getD (List.set (l4 x_1) (Int.toNat x) (IntKind.wrap IntKind.i64 (List.getD (l4 x_1) (Int.toNat x) x_1.1 - List.getD (l4 b) (Int.toNat x) b.1))) (nat_lit 2) (IntKind.wrap IntKind.i64 (List.getD (l4 x_1) (Int.toNat x) x_1.1 - List.getD (l4 b) (Int.toNat x) b.1)), List.getD (List.set (l4 x_1) (Int.toNat x) (IntKind.wrap IntKind.i64 (List.getD (l4 x_1) (Int.toNat x) x_1.1 - List.getD (l4 b) (Int.toNat x) b.1))) (nat_lit 3) (IntKind.wrap IntKind.i64 (List.getD (l4 x_1) (Int.toNat x) x_1.1 - List.getD (l4 b) (Int.toNat x) b.1))) < μ x x_1) (Q (x_1.1, x_1.2.1, x_1.2.2.1, x_1.2.2.2))
theorem v99 (a : Int × Int × Int × Int) (b : Int × Int × Int × Int) (Q : Int × Int × Int × Int → Prop) : V99 a b Q = vcFunc (S0 [] []) f99_ct.own f99_ct.fresh f99_an Try.f99 (bodyOf Try.f99) f99_ct.A f99_ct.C f99_ct.R (a, b, ()) () Q := by kernel_rfl

def V66 (s : Int × Int) (Q : Int → Prop) : Prop := Q s.2
theorem v66 (s : Int × Int) (Q : Int → Prop) : V66 s Q = vcFunc (S0 [] []) f66_ct.own f66_ct.fresh no_an Try.f66 (bodyOf Try.f66) f66_ct.A f66_ct.C f66_ct.R s () Q := by kernel_rfl

def V65 (s : List Int × Int × List (Int × Int)) (f : List Spring) (e : Int × Int → (Int → Prop) → Prop) (Q : (List Int × Int × List (Int × Int)) × List Spring × Int × Int × Int × Int → Prop) : Prop := List.length f ≤ (9223372036854775807 : Nat) → ∃ (I : Int → (List Int × Int × List (Int × Int)) × List Spring × Int × Int × Int × Int → Prop), ∃ (μ : Int → (List Int × Int × List (Int × Int)) × List Spring × Int × Int × Int × Int → Nat), I (0 : Int) ((s.1, s.2.1, s.2.2), f, (0 : Int), (0 : Int), (0 : Int), (0 : Int)) ∧ ∀ (x : Int) (x_1 : (List Int × Int × List (Int × Int)) × List Spring × Int × Int × Int × Int), I x x_1 → cnd (decide (x < (↑(List.length f) : Int))) ((0 : Int) ≤ x ∧ x < (↑(List.length f) : Int) ∧ Prod.fst (e, ()) (Prod.fst (Prod.fst (List.getD f (Int.toNat x) (((0 : Int), (0 : Int)), (0 : Int), (0 : Int)))), Prod.snd (Prod.fst (List.getD f (Int.toNat x) (((0 : Int), (0 : Int)), (0 : Int), (0 : Int))))) fun (r : Int) ↦ (0 : Int) ≤ x ∧ x < (↑(4 : Nat) : Int) ∧ I (IntKind.wrap IntKind.i64 (x + (1 : Int))) ((x_1.1.1, x_1.1.2.1, x_1.1.2.2), x_1.2.1, List.getD (List.set (l4 x_1.2.2) (Int.toNat x) r) (nat_lit 0) r, List.getD (List.set (l4 x_1.2.2) (Int.toNat x) r) (nat_lit 1) r, List.getD (List.set (l4 x_1.2.2) (Int.toNat x) r) (nat_lit 2) r, List.getD (List.set (l4 x_1.2.2) (Int.toNat x) r) (nat_lit 3) r) ∧ μ (IntKind.wrap IntKind.i64 (x + (1 : Int))) ((x_1.1.1, x_1.1.2.1, x_1.1.2.2), x_1.2.1, List.getD (List.set (l4 x_1.2.2) (Int.toNat x) r) (nat_lit 0) r, List.getD (List.set (l4 x_1.2.2) (Int.toNat x) r) (nat_lit 1) r, List.getD (List.set (l4 x_1.2.2) (Int.toNat x) r) (nat_lit 2) r, List.getD (List.set (l4 x_1.2.2) (Int.toNat x) r) (nat_lit 3) r) < μ x x_1) (Q ((x_1.1.1, x_1.1.2.1, x_1.1.2.2), x_1.2.1, x_1.2.2.1, x_1.2.2.2.1, x_1.2.2.2.2.1, x_1.2.2.2.2.2))
theorem v65 (s : List Int × Int × List (Int × Int)) (f : List Spring) (e : Int × Int → (Int → Prop) → Prop) (Q : (List Int × Int × List (Int × Int)) × List Spring × Int × Int × Int × Int → Prop) : V65 s f e Q = vcFunc (S0 [] []) f65_ct.own f65_ct.fresh f65_an Try.f65 (bodyOf Try.f65) f65_ct.A f65_ct.C f65_ct.R (s, f, e, ()) () Q := by kernel_rfl

def V69 (x : (List Int × Int × List (Int × Int)) × List Spring × Int × Int × Int × Int) (Q : Int × Int × Int × Int → Prop) : Prop := List.length x.2.1 ≤ (9223372036854775807 : Nat) → ∃ (I : Int → Int × Int × Int × Int → Prop), ∃ (μ : Int → Int × Int × Int × Int → Nat), I (0 : Int) ((0 : Int), (0 : Int), (0 : Int), (0 : Int)) ∧ ∀ (x_1 : Int) (x_2 : Int × Int × Int × Int), I x_1 x_2 → cnd (decide (x_1 < (↑(List.length x.2.1) : Int))) ((0 : Int) ≤ x_1 ∧ x_1 < (↑(List.length x.2.1) : Int) ∧ (0 : Int) ≤ x_1 ∧ x_1 < (↑(4 : Nat) : Int) ∧ I (IntKind.wrap IntKind.i64 (x_1 + (1 : Int))) (List.getD (List.set (l4 x_2) (Int.toNat x_1) (Prod.fst (Prod.snd (List.getD x.2.1 (Int.toNat x_1) (((0 : Int), (0 : Int)), (0 : Int), (0 : Int)))))) (nat_lit 0) (Prod.fst (Prod.snd (List.getD x.2.1 (Int.toNat x_1) (((0 : Int), (0 : Int)), (0 : Int), (0 : Int))))), List.getD (List.set (l4 x_2) (Int.toNat x_1) (Prod.fst (Prod.snd (List.getD x.2.1 (Int.toNat x_1) (((0 : Int), (0 : Int)), (0 : Int), (0 : Int)))))) (nat_lit 1) (Prod.fst (Prod.snd (List.getD x.2.1 (Int.toNat x_1) (((0 : Int), (0 : Int)), (0 : Int), (0 : Int))))), List.getD (List.set (l4 x_2) (Int.toNat x_1) (Prod.fst (Prod.snd (List.getD x.2.1 (Int.toNat x_1) (((0 : Int), (0 : Int)), (0 : Int), (0 : Int)))))) (nat_lit 2) (Prod.fst (Prod.snd (List.getD x.2.1 (Int.toNat x_1) (((0 : Int), (0 : Int)), (0 : Int), (0 : Int))))), List.getD (List.set (l4 x_2) (Int.toNat x_1) (Prod.fst (Prod.snd (List.getD x.2.1 (Int.toNat x_1) (((0 : Int), (0 : Int)), (0 : Int), (0 : Int)))))) (nat_lit 3) (Prod.fst (Prod.snd (List.getD x.2.1 (Int.toNat x_1) (((0 : Int), (0 : Int)), (0 : Int), (0 : Int)))))) ∧ μ (IntKind.wrap IntKind.i64 (x_1 + (1 : Int))) (List.getD (List.set (l4 x_2) (Int.toNat x_1) (Prod.fst (Prod.snd (List.getD x.2.1 (Int.toNat x_1) (((0 : Int), (0 : Int)), (0 : Int), (0 : Int)))))) (nat_lit 0) (Prod.fst (Prod.snd (List.getD x.2.1 (Int.toNat x_1) (((0 : Int), (0 : Int)), (0 : Int), (0 : Int))))), List.getD (List.set (l4 x_2) (Int.toNat x_1) (Prod.fst (Prod.snd (List.getD x.2.1 (Int.toNat x_1) (((0 : Int), (0 : Int)), (0 : Int), (0 : Int)))))) (nat_lit 1) (Prod.fst (Prod.snd (List.getD x.2.1 (Int.toNat x_1) (((0 : Int), (0 : Int)), (0 : Int), (0 : Int))))), List.getD (List.set (l4 x_2) (Int.toNat x_1) (Prod.fst (Prod.snd (List.getD x.2.1 (Int.toNat x_1) (((0 : Int), (0 : Int)), (0 : Int), (0 : Int)))))) (nat_lit 2) (Prod.fst (Prod.snd (List.getD x.2.1 (Int.toNat x_1) (((0 : Int), (0 : Int)), (0 : Int), (0 : Int))))), List.getD (List.set (l4 x_2) (Int.toNat x_1) (Prod.fst (Prod.snd (List.getD x.2.1 (Int.toNat x_1) (((0 : Int), (0 : Int)), (0 : Int), (0 : Int)))))) (nat_lit 3) (Prod.fst (Prod.snd (List.getD x.2.1 (Int.toNat x_1) (((0 : Int), (0 : Int)), (0 : Int), (0 : Int)))))) < μ x_1 x_2) (Q (x_2.1, x_2.2.1, x_2.2.2.1, x_2.2.2.2))
theorem v69 (x : (List Int × Int × List (Int × Int)) × List Spring × Int × Int × Int × Int) (Q : Int × Int × Int × Int → Prop) : V69 x Q = vcFunc (S0 [] []) f69_ct.own f69_ct.fresh f69_an Try.f69 (bodyOf Try.f69) f69_ct.A f69_ct.C f69_ct.R x () Q := by kernel_rfl

def V68 (x : (List Int × Int × List (Int × Int)) × List Spring × Int × Int × Int × Int) (e : Int) (i : Int) (Q : List BinT → Prop) : Prop := List.length x.2.1 ≤ (9223372036854775807 : Nat) → ∃ (I : Int → FansT × FansT × Int × Int → Prop), ∃ (μ : Int → FansT × FansT × Int × Int → Nat), I (0 : Int) (((0 : Int), (0 : Int), (0 : Int), (0 : Int)), ((0 : Int), (0 : Int), (0 : Int), (0 : Int)), (0 : Int), i) ∧ ∀ (x_1 : Int) (x_2 : FansT × FansT × Int × Int), I x_1 x_2 → cnd (decide (x_1 < (↑(List.length x.2.1) : Int))) ((0 : Int) ≤ x_1 ∧ x_1 < (↑(4 : Nat) : Int) ∧ (0 : Int) ≤ x_1 ∧ x_1 < (↑(4 : Nat) : Int) ∧ (0 : Int) ≤ x_1 ∧ x_1 < (↑(4 : Nat) : Int) ∧ I (IntKind.wrap IntKind.i64 (x_1 + (1 : Int))) ((List.getD (List.set (l4 x_2.1) (Int.toNat x_1) (IntKind.wrap IntKind.i64 (List.getD (l4 x.2.2) (Int.toNat x_1) x.2.2.1 + x.1.2.1))) (nat_lit 0) (IntKind.wrap IntKind.i64 (List.getD (l4 x.2.2) (Int.toNat x_1) x.2.2.1 + x.1.2.1)), List.getD (List.set (l4 x_2.1) (Int.toNat x_1) (IntKind.wrap IntKind.i64 (List.getD (l4 x.2.2) (Int.toNat x_1) x.2.2.1 + x.1.2.1))) (nat_lit 1) (IntKind.wrap IntKind.i64 (List.getD (l4 x.2.2) (Int.toNat x_1) x.2.2.1 + x.1.2.1)), List.getD (List.set (l4 x_2.1) (Int.toNat x_1) (IntKind.wrap IntKind.i64 (List.getD (l4 x.2.2) (Int.toNat x_1) x.2.2.1 + x.1.2.1))) (nat_lit 2) (IntKind.wrap IntKind.i64 (List.getD (l4 x.2.2) (Int.toNat x_1) x.2.2.1 + x.1.2.1)), List.getD (List.set (l4 x_2.1) (Int.toNat x_1) (IntKind.wrap IntKind.i64 (List.getD (l4 x.2.2) (Int.toNat x_1) x.2.2.1 + x.1.2.1))) (nat_lit 3) (IntKind.wrap IntKind.i64 (List.getD (l4 x.2.2) (Int.toNat x_1) x.2.2.1 + x.1.2.1))), (List.getD (List.set (l4 x_2.2.1) (Int.toNat x_1) e) (nat_lit 0) e, List.getD (List.set (l4 x_2.2.1) (Int.toNat x_1) e) (nat_lit 1) e, List.getD (List.set (l4 x_2.2.1) (Int.toNat x_1) e) (nat_lit 2) e, List.getD (List.set (l4 x_2.2.1) (Int.toNat x_1) e) (nat_lit 3) e), x_2.2.2.1, x_2.2.2.2) ∧ μ (IntKind.wrap IntKind.i64 (x_1 + (1 : Int))) ((List.getD (List.set (l4 x_2.1) (Int.toNat x_1) (IntKind.wrap IntKind.i64 (List.getD (l4 x.2.2) (Int.toNat x_1) x.2.2.1 + x.1.2.1))) (nat_lit 0) (IntKind.wrap IntKind.i64 (List.getD (l4 x.2.2) (Int.toNat x_1) x.2.2.1 + x.1.2.1)), List.getD (List.set (l4 x_2.1) (Int.toNat x_1) (IntKind.wrap IntKind.i64 (List.getD (l4 x.2.2) (Int.toNat x_1) x.2.2.1 + x.1.2.1))) (nat_lit 1) (IntKind.wrap IntKind.i64 (List.getD (l4 x.2.2) (Int.toNat x_1) x.2.2.1 + x.1.2.1)), List.getD (List.set (l4 x_2.1) (Int.toNat x_1) (IntKind.wrap IntKind.i64 (List.getD (l4 x.2.2) (Int.toNat x_1) x.2.2.1 + x.1.2.1))) (nat_lit 2) (IntKind.wrap IntKind.i64 (List.getD (l4 x.2.2) (Int.toNat x_1) x.2.2.1 + x.1.2.1)), List.getD (List.set (l4 x_2.1) (Int.toNat x_1) (IntKind.wrap IntKind.i64 (List.getD (l4 x.2.2) (Int.toNat x_1) x.2.2.1 + x.1.2.1))) (nat_lit 3) (IntKind.wrap IntKind.i64 (List.getD (l4 x.2.2) (Int.toNat x_1) x.2.2.1 + x.1.2.1))), (List.getD (List.set (l4 x_2.2.1) (Int.toNat x_1) e) (nat_lit 0) e, List.getD (List.set (l4 x_2.2.1) (Int.toNat x_1) e) (nat_lit 1) e, List.getD (List.set (l4 x_2.2.1) (Int.toNat x_1) e) (nat_lit 2) e, List.getD (List.set (l4 x_2.2.1) (Int.toNat x_1) e) (nat_lit 3) e), x_2.2.2.1, x_2.2.2.2) < μ x_1 x_2) (List.length x.1.1 ≤ (9223372036854775807 : Nat) → ∃ (I : Int → FansT × FansT × Int × Int → List BinT → Prop), ∃ (μ : Int → FansT × FansT × Int × Int → List BinT → Nat), I (0 : Int) ((x_2.1.1, x_2.1.2.1, x_2.1.2.2.1, x_2.1.2.2.2), (x_2.2.1.1, x_2.2.1.2.1, x_2.2.1.2.2.1, x_2.2.1.2.2.2), x_2.2.2.1, x_2.2.2.2) ([] : List BinT) ∧ ∀ (x_3 : Int) (x_4 : FansT × FansT × Int × Int) (x_5 : List BinT), I x_3 x_4 x_5 → cnd (decide (x_3 < (↑(List.length x.1.1) : Int))) ((0 : Int) ≤ x_3 ∧ x_3 < (↑(List.length x.1.1) : Int) ∧ (List.length x_5 + List.length (((x_4.1.1, x_4.1.2.1, x_4.1.2.2.1, x_4.1.2.2.2), (x_4.2.1.1, x_4.2.1.2.1, x_4.2.1.2.2.1, x_4.2.1.2.2.2), IntKind.wrap IntKind.i64 (List.getD x.1.1 (Int.toNat x_3) (0 : Int) + x.1.2.1), x_4.2.2.2) :: ([] : List BinT))) * (80 : Nat) ≤ (140737488355328 : Nat) ∧ I (IntKind.wrap IntKind.i64 (x_3 + (1 : Int))) ((x_4.1.1, x_4.1.2.1, x_4.1.2.2.1, x_4.1.2.2.2), (x_4.2.1.1, x_4.2.1.2.1, x_4.2.1.2.2.1, x_4.2.1.2.2.2), IntKind.wrap IntKind.i64 (List.getD x.1.1 (Int.toNat x_3) (0 : Int) + x.1.2.1), x_4.2.2.2) (x_5 ++ ((x_4.1.1, x_4.1.2.1, x_4.1.2.2.1, x_4.1.2.2.2), (x_4.2.1.1, x_4.2.1.2.1, x_4.2.1.2.2.1, x_4.2.1.2.2.2), IntKind.wrap IntKind.i64 (List.getD x.1.1 (Int.toNat x_3) (0 : Int) + x.1.2.1), x_4.2.2.2) :: ([] : List BinT)) ∧ μ (IntKind.wrap IntKind.i64 (x_3 + (1 : Int))) ((x_4.1.1, x_4.1.2.1, x_4.1.2.2.1, x_4.1.2.2.2), (x_4.2.1.1, x_4.2.1.2.1, x_4.2.1.2.2.1, x_4.2.1.2.2.2), IntKind.wrap IntKind.i64 (List.getD x.1.1 (Int.toNat x_3) (0 : Int) + x.1.2.1), x_4.2.2.2) (x_5 ++ ((x_4.1.1, x_4.1.2.1, x_4.1.2.2.1, x_4.1.2.2.2), (x_4.2.1.1, x_4.2.1.2.1, x_4.2.1.2.2.1, x_4.2.1.2.2.2), IntKind.wrap IntKind.i64 (List.getD x.1.1 (Int.toNat x_3) (0 : Int) + x.1.2.1), x_4.2.2.2) :: ([] : List BinT)) < μ x_3 x_4 x_5) (Q x_5))
theorem v68 (x : (List Int × Int × List (Int × Int)) × List Spring × Int × Int × Int × Int) (e : Int) (i : Int) (Q : List BinT → Prop) : V68 x e i Q = vcFunc (S0 [] []) f68_ct.own f68_ct.fresh f68_an Try.f68 (bodyOf Try.f68) f68_ct.A f68_ct.C f68_ct.R (x, e, i, ()) () Q := by kernel_rfl

def V77 (x : (List Int × Int × List (Int × Int)) × List Spring × Int × Int × Int × Int) (Q : List BinT → Prop) : Prop := List.length x.1.2.2 ≤ (9223372036854775807 : Nat) → ∃ (I : Int → List BinT → Prop), ∃ (μ : Int → List BinT → Nat), I (0 : Int) ([] : List BinT) ∧ ∀ (x_1 : Int) (x_2 : List BinT), I x_1 x_2 → cnd (decide (x_1 < (↑(List.length x.1.2.2) : Int))) ((0 : Int) ≤ x_1 ∧ x_1 < (↑(List.length x.1.2.2) : Int) ∧ (List.length x.2.1 ≤ (9223372036854775807 : Nat) → ∃ (I_1 : Int → FansT × FansT × Int × Int → Prop), ∃ (μ_1 : Int → FansT × FansT × Int × Int → Nat), I_1 (0 : Int) (((0 : Int), (0 : Int), (0 : Int), (0 : Int)), ((0 : Int), (0 : Int), (0 : Int), (0 : Int)), Prod.snd (List.getD x.1.2.2 (Int.toNat x_1) ((0 : Int), (0 : Int))), (0 : Int)) ∧ ∀ (x_3 : Int) (x_4 : FansT × FansT × Int × Int), I_1 x_3 x_4 → cnd (decide (x_3 < (↑(List.length x.2.1) : Int))) ((0 : Int) ≤ x_3 ∧ x_3 < (↑(List.length x.2.1) : Int) ∧ (0 : Int) ≤ x_3 ∧ x_3 < (↑(4 : Nat) : Int) ∧ (0 : Int) ≤ x_3 ∧ x_3 < (↑(4 : Nat) : Int) ∧ (0 : Int) ≤ x_3 ∧ x_3 < (↑(4 : Nat) : Int) ∧ (0 : Int) ≤ x_3 ∧ x_3 < (↑(4 : Nat) : Int) ∧ cnd (decide (Prod.snd (Prod.snd (List.getD x.2.1 (Int.toNat x_3) (((0 : Int), (0 : Int)), (0 : Int), (0 : Int)))) > Prod.fst (List.getD x.1.2.2 (Int.toNat x_1) ((0 : Int), (0 : Int))))) ((0 : Int) ≤ x_3 ∧ x_3 < (↑(4 : Nat) : Int) ∧ I_1 (IntKind.wrap IntKind.i64 (x_3 + (1 : Int))) ((List.getD (List.set (List.getD (List.set (l4 x_4.1) (Int.toNat x_3) (List.getD (l4 x.2.2) (Int.toNat x_3) x.2.2.1)) (nat_lit 0) (List.getD (l4 x.2.2) (Int.toNat x_3) x.2.2.1) :: List.getD (List.set (l4 x_4.1) (Int.toNat x_3) (List.getD (l4 x.2.2) (Int.toNat x_3) x.2.2.1)) (nat_lit 1) (List.getD (l4 x.2.2) (Int.toNat x_3) x.2.2.1) :: List.getD (List.set (l4 x_4.1) (Int.toNat x_3) (List.getD (l4 x.2.2) (Int.toNat x_3) x.2.2.1)) (nat_lit 2) (List.getD (l4 x.2.2) (Int.toNat x_3) x.2.2.1) :: List.getD (List.set (l4 x_4.1) (Int.toNat x_3) (List.getD (l4 x.2.2) (Int.toNat x_3) x.2.2.1)) (nat_lit 3) (List.getD (l4 x.2.2) (Int.toNat x_3) x.2.2.1) :: ([] : List Int)) (Int.toNat x_3) (IntKind.wrap IntKind.i64 (Prod.snd (List.getD x.1.2.2 (Int.toNat x_1) ((0 : Int), (0 : Int))) + (1 : Int)))) (nat_lit 0) (IntKind.wrap IntKind.i64 (Prod.snd (List.getD x.1.2.2 (Int.toNat x_1) ((0 : Int), (0 : Int))) + (1 : Int))), List.getD (List.set (List.getD (List.set (l4 x_4.1) (Int.toNat x_3) (List.getD (l4 x.2.2) (Int.toNat x_3) x.2.2.1)) (nat_lit 0) (List.getD (l4 x.2.2) (Int.toNat x_3) x.2.2.1) :: List.getD (List.set (l4 x_4.1) (Int.toNat x_3) (List.getD (l4 x.2.2) (Int.toNat x_3) x.2.2.1)) (nat_lit 1) (List.getD (l4 x.2.2) (Int.toNat x_3) x.2.2.1) :: List.getD (List.set (l4 x_4.1) (Int.toNat x_3) (List.getD (l4 x.2.2) (Int.toNat x_3) x.2.2.1)) (nat_lit 2) (List.getD (l4 x.2.2) (Int.toNat x_3) x.2.2.1) :: List.getD (List.set (l4 x_4.1) (Int.toNat x_3) (List.getD (l4 x.2.2) (Int.toNat x_3) x.2.2.1)) (nat_lit 3) (List.getD (l4 x.2.2) (Int.toNat x_3) x.2.2.1) :: ([] : List Int)) (Int.toNat x_3) (IntKind.wrap IntKind.i64 (Prod.snd (List.getD x.1.2.2 (Int.toNat x_1) ((0 : Int), (0 : Int))) + (1 : Int)))) (nat_lit 1) (IntKind.wrap IntKind.i64 (Prod.snd (List.getD x.1.2.2 (Int.toNat x_1) ((0 : Int), (0 : Int))) + (1 : Int))), List.getD (List.set (List.getD (List.set (l4 x_4.1) (Int.toNat x_3) (List.getD (l4 x.2.2) (Int.toNat x_3) x.2.2.1)) (nat_lit 0) (List.getD (l4 x.2.2) (Int.toNat x_3) x.2.2.1) :: List.getD (List.set (l4 x_4.1) (Int.toNat x_3) (List.getD (l4 x.2.2) (Int.toNat x_3) x.2.2.1)) (nat_lit 1) (List.getD (l4 x.2.2) (Int.toNat x_3) x.2.2.1) :: List.getD (List.set (l4 x_4.1) (Int.toNat x_3) (List.getD (l4 x.2.2) (Int.toNat x_3) x.2.2.1)) (nat_lit 2) (List.getD (l4 x.2.2) (Int.toNat x_3) x.2.2.1) :: List.getD (List.set (l4 x_4.1) (Int.toNat x_3) (List.getD (l4 x.2.2) (Int.toNat x_3) x.2.2.1)) (nat_lit 3) (List.getD (l4 x.2.2) (Int.toNat x_3) x.2.2.1) :: ([] : List Int)) (Int.toNat x_3) (IntKind.wrap IntKind.i64 (Prod.snd (List.getD x.1.2.2 (Int.toNat x_1) ((0 : Int), (0 : Int))) + (1 : Int)))) (nat_lit 2) (IntKind.wrap IntKind.i64 (Prod.snd (List.getD x.1.2.2 (Int.toNat x_1) ((0 : Int), (0 : Int))) + (1 : Int))), List.getD (List.set (List.getD (List.set (l4 x_4.1) (Int.toNat x_3) (List.getD (l4 x.2.2) (Int.toNat x_3) x.2.2.1)) (nat_lit 0) (List.getD (l4 x.2.2) (Int.toNat x_3) x.2.2.1) :: List.getD (List.set (l4 x_4.1) (Int.toNat x_3) (List.getD (l4 x.2.2) (Int.toNat x_3) x.2.2.1)) (nat_lit 1) (List.getD (l4 x.2.2) (Int.toNat x_3) x.2.2.1) :: List.getD (List.set (l4 x_4.1) (Int.toNat x_3) (List.getD (l4 x.2.2) (Int.toNat x_3) x.2.2.1)) (nat_lit 2) (List.getD (l4 x.2.2) (Int.toNat x_3) x.2.2.1) :: List.getD (List.set (l4 x_4.1) (Int.toNat x_3) (List.getD (l4 x.2.2) (Int.toNat x_3) x.2.2.1)) (nat_lit 3) (List.getD (l4 x.2.2) (Int.toNat x_3) x.2.2.1) :: ([] : List Int)) (Int.toNat x_3) (IntKind.wrap IntKind.i64 (Prod.snd (List.getD x.1.2.2 (Int.toNat x_1) ((0 : Int), (0 : Int))) + (1 : Int)))) (nat_lit 3) (IntKind.wrap IntKind.i64 (Prod.snd (List.getD x.1.2.2 (Int.toNat x_1) ((0 : Int), (0 : Int))) + (1 : Int)))), (List.getD (List.set (l4 x_4.2.1) (Int.toNat x_3) (IntKind.wrap IntKind.i64 (List.getD (l4 x.2.2) (Int.toNat x_3) x.2.2.1 * IntKind.wrap IntKind.i64 (Prod.fst (List.getD x.1.2.2 (Int.toNat x_1) ((0 : Int), (0 : Int))) - Prod.snd (Prod.snd (List.getD x.2.1 (Int.toNat x_3) (((0 : Int), (0 : Int)), (0 : Int), (0 : Int)))))))) (nat_lit 0) (IntKind.wrap IntKind.i64 (List.getD (l4 x.2.2) (Int.toNat x_3) x.2.2.1 * IntKind.wrap IntKind.i64 (Prod.fst (List.getD x.1.2.2 (Int.toNat x_1) ((0 : Int), (0 : Int))) - Prod.snd (Prod.snd (List.getD x.2.1 (Int.toNat x_3) (((0 : Int), (0 : Int)), (0 : Int), (0 : Int))))))), List.getD (List.set (l4 x_4.2.1) (Int.toNat x_3) (IntKind.wrap IntKind.i64 (List.getD (l4 x.2.2) (Int.toNat x_3) x.2.2.1 * IntKind.wrap IntKind.i64 (Prod.fst (List.getD x.1.2.2 (Int.toNat x_1) ((0 : Int), (0 : Int))) - Prod.snd (Prod.snd (List.getD x.2.1 (Int.toNat x_3) (((0 : Int), (0 : Int)), (0 : Int), (0 : Int)))))))) (nat_lit 1) (IntKind.wrap IntKind.i64 (List.getD (l4 x.2.2) (Int.toNat x_3) x.2.2.1 * IntKind.wrap IntKind.i64 (Prod.fst (List.getD x.1.2.2 (Int.toNat x_1) ((0 : Int), (0 : Int))) - Prod.snd (Prod.snd (List.getD x.2.1 (Int.toNat x_3) (((0 : Int), (0 : Int)), (0 : Int), (0 : Int))))))), List.getD (List.set (l4 x_4.2.1) (Int.toNat x_3) (IntKind.wrap IntKind.i64 (List.getD (l4 x.2.2) (Int.toNat x_3) x.2.2.1 * IntKind.wrap IntKind.i64 (Prod.fst (List.getD x.1.2.2 (Int.toNat x_1) ((0 : Int), (0 : Int))) - Prod.snd (Prod.snd (List.getD x.2.1 (Int.toNat x_3) (((0 : Int), (0 : Int)), (0 : Int), (0 : Int)))))))) (nat_lit 2) (IntKind.wrap IntKind.i64 (List.getD (l4 x.2.2) (Int.toNat x_3) x.2.2.1 * IntKind.wrap IntKind.i64 (Prod.fst (List.getD x.1.2.2 (Int.toNat x_1) ((0 : Int), (0 : Int))) - Prod.snd (Prod.snd (List.getD x.2.1 (Int.toNat x_3) (((0 : Int), (0 : Int)), (0 : Int), (0 : Int))))))), List.getD (List.set (l4 x_4.2.1) (Int.toNat x_3) (IntKind.wrap IntKind.i64 (List.getD (l4 x.2.2) (Int.toNat x_3) x.2.2.1 * IntKind.wrap IntKind.i64 (Prod.fst (List.getD x.1.2.2 (Int.toNat x_1) ((0 : Int), (0 : Int))) - Prod.snd (Prod.snd (List.getD x.2.1 (Int.toNat x_3) (((0 : Int), (0 : Int)), (0 : Int), (0 : Int)))))))) (nat_lit 3) (IntKind.wrap IntKind.i64 (List.getD (l4 x.2.2) (Int.toNat x_3) x.2.2.1 * IntKind.wrap IntKind.i64 (Prod.fst (List.getD x.1.2.2 (Int.toNat x_1) ((0 : Int), (0 : Int))) - Prod.snd (Prod.snd (List.getD x.2.1 (Int.toNat x_3) (((0 : Int), (0 : Int)), (0 : Int), (0 : Int)))))))), x_4.2.2.1, x_4.2.2.2) ∧ μ_1 (IntKind.wrap IntKind.i64 (x_3 + (1 : Int))) ((List.getD (List.set (List.getD (List.set (l4 x_4.1) (Int.toNat x_3) (List.getD (l4 x.2.2) (Int.toNat x_3) x.2.2.1)) (nat_lit 0) (List.getD (l4 x.2.2) (Int.toNat x_3) x.2.2.1) :: List.getD (List.set (l4 x_4.1) (Int.toNat x_3) (List.getD (l4 x.2.2) (Int.toNat x_3) x.2.2.1)) (nat_lit 1) (List.getD (l4 x.2.2) (Int.toNat x_3) x.2.2.1) :: List.getD (List.set (l4 x_4.1) (Int.toNat x_3) (List.getD (l4 x.2.2) (Int.toNat x_3) x.2.2.1)) (nat_lit 2) (List.getD (l4 x.2.2) (Int.toNat x_3) x.2.2.1) :: List.getD (List.set (l4 x_4.1) (Int.toNat x_3) (List.getD (l4 x.2.2) (Int.toNat x_3) x.2.2.1)) (nat_lit 3) (List.getD (l4 x.2.2) (Int.toNat x_3) x.2.2.1) :: ([] : List Int)) (Int.toNat x_3) (IntKind.wrap IntKind.i64 (Prod.snd (List.getD x.1.2.2 (Int.toNat x_1) ((0 : Int), (0 : Int))) + (1 : Int)))) (nat_lit 0) (IntKind.wrap IntKind.i64 (Prod.snd (List.getD x.1.2.2 (Int.toNat x_1) ((0 : Int), (0 : Int))) + (1 : Int))), List.getD (List.set (List.getD (List.set (l4 x_4.1) (Int.toNat x_3) (List.getD (l4 x.2.2) (Int.toNat x_3) x.2.2.1)) (nat_lit 0) (List.getD (l4 x.2.2) (Int.toNat x_3) x.2.2.1) :: List.getD (List.set (l4 x_4.1) (Int.toNat x_3) (List.getD (l4 x.2.2) (Int.toNat x_3) x.2.2.1)) (nat_lit 1) (List.getD (l4 x.2.2) (Int.toNat x_3) x.2.2.1) :: List.getD (List.set (l4 x_4.1) (Int.toNat x_3) (List.getD (l4 x.2.2) (Int.toNat x_3) x.2.2.1)) (nat_lit 2) (List.getD (l4 x.2.2) (Int.toNat x_3) x.2.2.1) :: List.getD (List.set (l4 x_4.1) (Int.toNat x_3) (List.getD (l4 x.2.2) (Int.toNat x_3) x.2.2.1)) (nat_lit 3) (List.getD (l4 x.2.2) (Int.toNat x_3) x.2.2.1) :: ([] : List Int)) (Int.toNat x_3) (IntKind.wrap IntKind.i64 (Prod.snd (List.getD x.1.2.2 (Int.toNat x_1) ((0 : Int), (0 : Int))) + (1 : Int)))) (nat_lit 1) (IntKind.wrap IntKind.i64 (Prod.snd (List.getD x.1.2.2 (Int.toNat x_1) ((0 : Int), (0 : Int))) + (1 : Int))), List.getD (List.set (List.getD (List.set (l4 x_4.1) (Int.toNat x_3) (List.getD (l4 x.2.2) (Int.toNat x_3) x.2.2.1)) (nat_lit 0) (List.getD (l4 x.2.2) (Int.toNat x_3) x.2.2.1) :: List.getD (List.set (l4 x_4.1) (Int.toNat x_3) (List.getD (l4 x.2.2) (Int.toNat x_3) x.2.2.1)) (nat_lit 1) (List.getD (l4 x.2.2) (Int.toNat x_3) x.2.2.1) :: List.getD (List.set (l4 x_4.1) (Int.toNat x_3) (List.getD (l4 x.2.2) (Int.toNat x_3) x.2.2.1)) (nat_lit 2) (List.getD (l4 x.2.2) (Int.toNat x_3) x.2.2.1) :: List.getD (List.set (l4 x_4.1) (Int.toNat x_3) (List.getD (l4 x.2.2) (Int.toNat x_3) x.2.2.1)) (nat_lit 3) (List.getD (l4 x.2.2) (Int.toNat x_3) x.2.2.1) :: ([] : List Int)) (Int.toNat x_3) (IntKind.wrap IntKind.i64 (Prod.snd (List.getD x.1.2.2 (Int.toNat x_1) ((0 : Int), (0 : Int))) + (1 : Int)))) (nat_lit 2) (IntKind.wrap IntKind.i64 (Prod.snd (List.getD x.1.2.2 (Int.toNat x_1) ((0 : Int), (0 : Int))) + (1 : Int))), List.getD (List.set (List.getD (List.set (l4 x_4.1) (Int.toNat x_3) (List.getD (l4 x.2.2) (Int.toNat x_3) x.2.2.1)) (nat_lit 0) (List.getD (l4 x.2.2) (Int.toNat x_3) x.2.2.1) :: List.getD (List.set (l4 x_4.1) (Int.toNat x_3) (List.getD (l4 x.2.2) (Int.toNat x_3) x.2.2.1)) (nat_lit 1) (List.getD (l4 x.2.2) (Int.toNat x_3) x.2.2.1) :: List.getD (List.set (l4 x_4.1) (Int.toNat x_3) (List.getD (l4 x.2.2) (Int.toNat x_3) x.2.2.1)) (nat_lit 2) (List.getD (l4 x.2.2) (Int.toNat x_3) x.2.2.1) :: List.getD (List.set (l4 x_4.1) (Int.toNat x_3) (List.getD (l4 x.2.2) (Int.toNat x_3) x.2.2.1)) (nat_lit 3) (List.getD (l4 x.2.2) (Int.toNat x_3) x.2.2.1) :: ([] : List Int)) (Int.toNat x_3) (IntKind.wrap IntKind.i64 (Prod.snd (List.getD x.1.2.2 (Int.toNat x_1) ((0 : Int), (0 : Int))) + (1 : Int)))) (nat_lit 3) (IntKind.wrap IntKind.i64 (Prod.snd (List.getD x.1.2.2 (Int.toNat x_1) ((0 : Int), (0 : Int))) + (1 : Int)))), (List.getD (List.set (l4 x_4.2.1) (Int.toNat x_3) (IntKind.wrap IntKind.i64 (List.getD (l4 x.2.2) (Int.toNat x_3) x.2.2.1 * IntKind.wrap IntKind.i64 (Prod.fst (List.getD x.1.2.2 (Int.toNat x_1) ((0 : Int), (0 : Int))) - Prod.snd (Prod.snd (List.getD x.2.1 (Int.toNat x_3) (((0 : Int), (0 : Int)), (0 : Int), (0 : Int)))))))) (nat_lit 0) (IntKind.wrap IntKind.i64 (List.getD (l4 x.2.2) (Int.toNat x_3) x.2.2.1 * IntKind.wrap IntKind.i64 (Prod.fst (List.getD x.1.2.2 (Int.toNat x_1) ((0 : Int), (0 : Int))) - Prod.snd (Prod.snd (List.getD x.2.1 (Int.toNat x_3) (((0 : Int), (0 : Int)), (0 : Int), (0 : Int))))))), List.getD (List.set (l4 x_4.2.1) (Int.toNat x_3) (IntKind.wrap IntKind.i64 (List.getD (l4 x.2.2) (Int.toNat x_3) x.2.2.1 * IntKind.wrap IntKind.i64 (Prod.fst (List.getD x.1.2.2 (Int.toNat x_1) ((0 : Int), (0 : Int))) - Prod.snd (Prod.snd (List.getD x.2.1 (Int.toNat x_3) (((0 : Int), (0 : Int)), (0 : Int), (0 : Int)))))))) (nat_lit 1) (IntKind.wrap IntKind.i64 (List.getD (l4 x.2.2) (Int.toNat x_3) x.2.2.1 * IntKind.wrap IntKind.i64 (Prod.fst (List.getD x.1.2.2 (Int.toNat x_1) ((0 : Int), (0 : Int))) - Prod.snd (Prod.snd (List.getD x.2.1 (Int.toNat x_3) (((0 : Int), (0 : Int)), (0 : Int), (0 : Int))))))), List.getD (List.set (l4 x_4.2.1) (Int.toNat x_3) (IntKind.wrap IntKind.i64 (List.getD (l4 x.2.2) (Int.toNat x_3) x.2.2.1 * IntKind.wrap IntKind.i64 (Prod.fst (List.getD x.1.2.2 (Int.toNat x_1) ((0 : Int), (0 : Int))) - Prod.snd (Prod.snd (List.getD x.2.1 (Int.toNat x_3) (((0 : Int), (0 : Int)), (0 : Int), (0 : Int)))))))) (nat_lit 2) (IntKind.wrap IntKind.i64 (List.getD (l4 x.2.2) (Int.toNat x_3) x.2.2.1 * IntKind.wrap IntKind.i64 (Prod.fst (List.getD x.1.2.2 (Int.toNat x_1) ((0 : Int), (0 : Int))) - Prod.snd (Prod.snd (List.getD x.2.1 (Int.toNat x_3) (((0 : Int), (0 : Int)), (0 : Int), (0 : Int))))))), List.getD (List.set (l4 x_4.2.1) (Int.toNat x_3) (IntKind.wrap IntKind.i64 (List.getD (l4 x.2.2) (Int.toNat x_3) x.2.2.1 * IntKind.wrap IntKind.i64 (Prod.fst (List.getD x.1.2.2 (Int.toNat x_1) ((0 : Int), (0 : Int))) - Prod.snd (Prod.snd (List.getD x.2.1 (Int.toNat x_3) (((0 : Int), (0 : Int)), (0 : Int), (0 : Int)))))))) (nat_lit 3) (IntKind.wrap IntKind.i64 (List.getD (l4 x.2.2) (Int.toNat x_3) x.2.2.1 * IntKind.wrap IntKind.i64 (Prod.fst (List.getD x.1.2.2 (Int.toNat x_1) ((0 : Int), (0 : Int))) - Prod.snd (Prod.snd (List.getD x.2.1 (Int.toNat x_3) (((0 : Int), (0 : Int)), (0 : Int), (0 : Int)))))))), x_4.2.2.1, x_4.2.2.2) < μ_1 x_3 x_4) (I_1 (IntKind.wrap IntKind.i64 (x_3 + (1 : Int))) ((List.getD (List.set (l4 x_4.1) (Int.toNat x_3) (List.getD (l4 x.2.2) (Int.toNat x_3) x.2.2.1)) (nat_lit 0) (List.getD (l4 x.2.2) (Int.toNat x_3) x.2.2.1), List.getD (List.set (l4 x_4.1) (Int.toNat x_3) (List.getD (l4 x.2.2) (Int.toNat x_3) x.2.2.1)) (nat_lit 1) (List.getD (l4 x.2.2) (Int.toNat x_3) x.2.2.1), List.getD (List.set (l4 x_4.1) (Int.toNat x_3) (List.getD (l4 x.2.2) (Int.toNat x_3) x.2.2.1)) (nat_lit 2) (List.getD (l4 x.2.2) (Int.toNat x_3) x.2.2.1), List.getD (List.set (l4 x_4.1) (Int.toNat x_3) (List.getD (l4 x.2.2) (Int.toNat x_3) x.2.2.1)) (nat_lit 3) (List.getD (l4 x.2.2) (Int.toNat x_3) x.2.2.1)), (List.getD (List.set (l4 x_4.2.1) (Int.toNat x_3) (IntKind.wrap IntKind.i64 (List.getD (l4 x.2.2) (Int.toNat x_3) x.2.2.1 * IntKind.wrap IntKind.i64 (Prod.fst (List.getD x.1.2.2 (Int.toNat x_1) ((0 : Int), (0 : Int))) - Prod.snd (Prod.snd (List.getD x.2.1 (Int.toNat x_3) (((0 : Int), (0 : Int)), (0 : Int), (0 : Int)))))))) (nat_lit 0) (IntKind.wrap IntKind.i64 (List.getD (l4 x.2.2) (Int.toNat x_3) x.2.2.1 * IntKind.wrap IntKind.i64 (Prod.fst (List.getD x.1.2.2 (Int.toNat x_1) ((0 : Int), (0 : Int))) - Prod.snd (Prod.snd (List.getD x.2.1 (Int.toNat x_3) (((0 : Int), (0 : Int)), (0 : Int), (0 : Int))))))), List.getD (List.set (l4 x_4.2.1) (Int.toNat x_3) (IntKind.wrap IntKind.i64 (List.getD (l4 x.2.2) (Int.toNat x_3) x.2.2.1 * IntKind.wrap IntKind.i64 (Prod.fst (List.getD x.1.2.2 (Int.toNat x_1) ((0 : Int), (0 : Int))) - Prod.snd (Prod.snd (List.getD x.2.1 (Int.toNat x_3) (((0 : Int), (0 : Int)), (0 : Int), (0 : Int)))))))) (nat_lit 1) (IntKind.wrap IntKind.i64 (List.getD (l4 x.2.2) (Int.toNat x_3) x.2.2.1 * IntKind.wrap IntKind.i64 (Prod.fst (List.getD x.1.2.2 (Int.toNat x_1) ((0 : Int), (0 : Int))) - Prod.snd (Prod.snd (List.getD x.2.1 (Int.toNat x_3) (((0 : Int), (0 : Int)), (0 : Int), (0 : Int))))))), List.getD (List.set (l4 x_4.2.1) (Int.toNat x_3) (IntKind.wrap IntKind.i64 (List.getD (l4 x.2.2) (Int.toNat x_3) x.2.2.1 * IntKind.wrap IntKind.i64 (Prod.fst (List.getD x.1.2.2 (Int.toNat x_1) ((0 : Int), (0 : Int))) - Prod.snd (Prod.snd (List.getD x.2.1 (Int.toNat x_3) (((0 : Int), (0 : Int)), (0 : Int), (0 : Int)))))))) (nat_lit 2) (IntKind.wrap IntKind.i64 (List.getD (l4 x.2.2) (Int.toNat x_3) x.2.2.1 * IntKind.wrap IntKind.i64 (Prod.fst (List.getD x.1.2.2 (Int.toNat x_1) ((0 : Int), (0 : Int))) - Prod.snd (Prod.snd (List.getD x.2.1 (Int.toNat x_3) (((0 : Int), (0 : Int)), (0 : Int), (0 : Int))))))), List.getD (List.set (l4 x_4.2.1) (Int.toNat x_3) (IntKind.wrap IntKind.i64 (List.getD (l4 x.2.2) (Int.toNat x_3) x.2.2.1 * IntKind.wrap IntKind.i64 (Prod.fst (List.getD x.1.2.2 (Int.toNat x_1) ((0 : Int), (0 : Int))) - Prod.snd (Prod.snd (List.getD x.2.1 (Int.toNat x_3) (((0 : Int), (0 : Int)), (0 : Int), (0 : Int)))))))) (nat_lit 3) (IntKind.wrap IntKind.i64 (List.getD (l4 x.2.2) (Int.toNat x_3) x.2.2.1 * IntKind.wrap IntKind.i64 (Prod.fst (List.getD x.1.2.2 (Int.toNat x_1) ((0 : Int), (0 : Int))) - Prod.snd (Prod.snd (List.getD x.2.1 (Int.toNat x_3) (((0 : Int), (0 : Int)), (0 : Int), (0 : Int)))))))), x_4.2.2.1, x_4.2.2.2) ∧ μ_1 (IntKind.wrap IntKind.i64 (x_3 + (1 : Int))) ((List.getD (List.set (l4 x_4.1) (Int.toNat x_3) (List.getD (l4 x.2.2) (Int.toNat x_3) x.2.2.1)) (nat_lit 0) (List.getD (l4 x.2.2) (Int.toNat x_3) x.2.2.1), List.getD (List.set (l4 x_4.1) (Int.toNat x_3) (List.getD (l4 x.2.2) (Int.toNat x_3) x.2.2.1)) (nat_lit 1) (List.getD (l4 x.2.2) (Int.toNat x_3) x.2.2.1), List.getD (List.set (l4 x_4.1) (Int.toNat x_3) (List.getD (l4 x.2.2) (Int.toNat x_3) x.2.2.1)) (nat_lit 2) (List.getD (l4 x.2.2) (Int.toNat x_3) x.2.2.1), List.getD (List.set (l4 x_4.1) (Int.toNat x_3) (List.getD (l4 x.2.2) (Int.toNat x_3) x.2.2.1)) (nat_lit 3) (List.getD (l4 x.2.2) (Int.toNat x_3) x.2.2.1)), (List.getD (List.set (l4 x_4.2.1) (Int.toNat x_3) (IntKind.wrap IntKind.i64 (List.getD (l4 x.2.2) (Int.toNat x_3) x.2.2.1 * IntKind.wrap IntKind.i64 (Prod.fst (List.getD x.1.2.2 (Int.toNat x_1) ((0 : Int), (0 : Int))) - Prod.snd (Prod.snd (List.getD x.2.1 (Int.toNat x_3) (((0 : Int), (0 : Int)), (0 : Int), (0 : Int)))))))) (nat_lit 0) (IntKind.wrap IntKind.i64 (List.getD (l4 x.2.2) (Int.toNat x_3) x.2.2.1 * IntKind.wrap IntKind.i64 (Prod.fst (List.getD x.1.2.2 (Int.toNat x_1) ((0 : Int), (0 : Int))) - Prod.snd (Prod.snd (List.getD x.2.1 (Int.toNat x_3) (((0 : Int), (0 : Int)), (0 : Int), (0 : Int))))))), List.getD (List.set (l4 x_4.2.1) (Int.toNat x_3) (IntKind.wrap IntKind.i64 (List.getD (l4 x.2.2) (Int.toNat x_3) x.2.2.1 * IntKind.wrap IntKind.i64 (Prod.fst (List.getD x.1.2.2 (Int.toNat x_1) ((0 : Int), (0 : Int))) - Prod.snd (Prod.snd (List.getD x.2.1 (Int.toNat x_3) (((0 : Int), (0 : Int)), (0 : Int), (0 : Int)))))))) (nat_lit 1) (IntKind.wrap IntKind.i64 (List.getD (l4 x.2.2) (Int.toNat x_3) x.2.2.1 * IntKind.wrap IntKind.i64 (Prod.fst (List.getD x.1.2.2 (Int.toNat x_1) ((0 : Int), (0 : Int))) - Prod.snd (Prod.snd (List.getD x.2.1 (Int.toNat x_3) (((0 : Int), (0 : Int)), (0 : Int), (0 : Int))))))), List.getD (List.set (l4 x_4.2.1) (Int.toNat x_3) (IntKind.wrap IntKind.i64 (List.getD (l4 x.2.2) (Int.toNat x_3) x.2.2.1 * IntKind.wrap IntKind.i64 (Prod.fst (List.getD x.1.2.2 (Int.toNat x_1) ((0 : Int), (0 : Int))) - Prod.snd (Prod.snd (List.getD x.2.1 (Int.toNat x_3) (((0 : Int), (0 : Int)), (0 : Int), (0 : Int)))))))) (nat_lit 2) (IntKind.wrap IntKind.i64 (List.getD (l4 x.2.2) (Int.toNat x_3) x.2.2.1 * IntKind.wrap IntKind.i64 (Prod.fst (List.getD x.1.2.2 (Int.toNat x_1) ((0 : Int), (0 : Int))) - Prod.snd (Prod.snd (List.getD x.2.1 (Int.toNat x_3) (((0 : Int), (0 : Int)), (0 : Int), (0 : Int))))))), List.getD (List.set (l4 x_4.2.1) (Int.toNat x_3) (IntKind.wrap IntKind.i64 (List.getD (l4 x.2.2) (Int.toNat x_3) x.2.2.1 * IntKind.wrap IntKind.i64 (Prod.fst (List.getD x.1.2.2 (Int.toNat x_1) ((0 : Int), (0 : Int))) - Prod.snd (Prod.snd (List.getD x.2.1 (Int.toNat x_3) (((0 : Int), (0 : Int)), (0 : Int), (0 : Int)))))))) (nat_lit 3) (IntKind.wrap IntKind.i64 (List.getD (l4 x.2.2) (Int.toNat x_3) x.2.2.1 * IntKind.wrap IntKind.i64 (Prod.fst (List.getD x.1.2.2 (Int.toNat x_1) ((0 : Int), (0 : Int))) - Prod.snd (Prod.snd (List.getD x.2.1 (Int.toNat x_3) (((0 : Int), (0 : Int)), (0 : Int), (0 : Int)))))))), x_4.2.2.1, x_4.2.2.2) < μ_1 x_3 x_4)) ((List.length x_2 + List.length (((x_4.1.1, x_4.1.2.1, x_4.1.2.2.1, x_4.1.2.2.2), (x_4.2.1.1, x_4.2.1.2.1, x_4.2.1.2.2.1, x_4.2.1.2.2.2), x_4.2.2.1, x_4.2.2.2) :: ([] : List BinT))) * (80 : Nat) ≤ (140737488355328 : Nat) ∧ I (IntKind.wrap IntKind.i64 (x_1 + (1 : Int))) (x_2 ++ ((x_4.1.1, x_4.1.2.1, x_4.1.2.2.1, x_4.1.2.2.2), (x_4.2.1.1, x_4.2.1.2.1, x_4.2.1.2.2.1, x_4.2.1.2.2.2), x_4.2.2.1, x_4.2.2.2) :: ([] : List BinT)) ∧ μ (IntKind.wrap IntKind.i64 (x_1 + (1 : Int))) (x_2 ++ ((x_4.1.1, x_4.1.2.1, x_4.1.2.2.1, x_4.1.2.2.2), (x_4.2.1.1, x_4.2.1.2.1, x_4.2.1.2.2.1, x_4.2.1.2.2.2), x_4.2.2.1, x_4.2.2.2) :: ([] : List BinT)) < μ x_1 x_2))) (Q x_2)
theorem v77 (x : (List Int × Int × List (Int × Int)) × List Spring × Int × Int × Int × Int) (Q : List BinT → Prop) : V77 x Q = vcFunc (S0 [] []) f77_ct.own f77_ct.fresh f77_an Try.f77 (bodyOf Try.f77) f77_ct.A f77_ct.C f77_ct.R x () Q := by kernel_rfl

end Go.Proofs.Fa
set_option linter.unusedVariables false
set_option maxRecDepth 100000
namespace Go.Proofs.Fa
open Go Go.GX Go.Proofs

def V92 (n : Int) (lo : Int) (hi : Int) (Q : Bool → Prop) : Prop := cnd (decide (n < lo)) (Q true) (Q (decide (n > hi)))
theorem v92 (n : Int) (lo : Int) (hi : Int) (Q : Bool → Prop) : V92 n lo hi Q = vcFunc (S0 [] []) f92_ct.own f92_ct.fresh no_an Try.f92 (bodyOf Try.f92) f92_ct.A f92_ct.C f92_ct.R n (lo, hi, ()) Q := by kernel_rfl

def V104 (xs : List Int) (f : Int → (Bool → Prop) → Prop) (Q : Int → Prop) : Prop := List.length xs ≤ (9223372036854775807 : Nat) → ∃ (I : Int → Prop), ∃ (μ : Int → Nat), I (0 : Int) ∧ ∀ (x : Int), I x → cnd (decide (x < (↑(List.length xs) : Int))) ((0 : Int) ≤ x ∧ x < (↑(List.length xs) : Int) ∧ Prod.fst (f, ()) (List.getD xs (Int.toNat x) (0 : Int)) fun (r : Bool) ↦ cnd r (Q x) (I (IntKind.wrap IntKind.i64 (x + (1 : Int))) ∧ μ (IntKind.wrap IntKind.i64 (x + (1 : Int))) < μ x)) (Q (-1 : Int))
theorem v104 (xs : List Int) (f : Int → (Bool → Prop) → Prop) (Q : Int → Prop) : V104 xs f Q = vcFunc (S0 [] []) f104_ct.own f104_ct.fresh idx_an Try.f104 (bodyOf Try.f104) f104_ct.A f104_ct.C f104_ct.R (xs, f, ()) () Q := by kernel_rfl

def V91 (xs : List Int) (f : Int → (Bool → Prop) → Prop) (Q : Bool → Prop) : Prop := f104_wp (xs, f, ()) () fun (r : Int) ↦ Q (decide (r ≥ (0 : Int)))
theorem v91 (xs : List Int) (f : Int → (Bool → Prop) → Prop) (Q : Bool → Prop) : V91 xs f Q = vcFunc (S0 [(104, f104_ct)] []) f91_ct.own f91_ct.fresh no_an Try.f91 (bodyOf Try.f91) f91_ct.A f91_ct.C f91_ct.R (xs, f, ()) () Q := by kernel_rfl

def V93 (xs : List (Int × Int)) (f : Int × Int → (Bool → Prop) → Prop) (Q : Int → Prop) : Prop := List.length xs ≤ (9223372036854775807 : Nat) → ∃ (I : Int → Prop), ∃ (μ : Int → Nat), I (0 : Int) ∧ ∀ (x : Int), I x → cnd (decide (x < (↑(List.length xs) : Int))) ((0 : Int) ≤ x ∧ x < (↑(List.length xs) : Int) ∧ Prod.fst (f, ()) (Prod.fst (List.getD xs (Int.toNat x) ((0 : Int), (0 : Int))), Prod.snd (List.getD xs (Int.toNat x) ((0 : Int), (0 : Int)))) fun (r : Bool) ↦ cnd r (Q x) (I (IntKind.wrap IntKind.i64 (x + (1 : Int))) ∧ μ (IntKind.wrap IntKind.i64 (x + (1 : Int))) < μ x)) (Q (-1 : Int))
theorem v93 (xs : List (Int × Int)) (f : Int × Int → (Bool → Prop) → Prop) (Q : Int → Prop) : V93 xs f Q = vcFunc (S0 [] []) f93_ct.own f93_ct.fresh idx_an Try.f93 (bodyOf Try.f93) f93_ct.A f93_ct.C f93_ct.R (xs, f, ()) () Q := by kernel_rfl

def V59 (xs : List (Int × Int)) (f : Int × Int → (Bool → Prop) → Prop) (Q : Bool → Prop) : Prop := f93_wp (xs, f, ()) () fun (r : Int) ↦ Q (decide (r ≥ (0 : Int)))
theorem v59 (xs : List (Int × Int)) (f : Int × Int → (Bool → Prop) → Prop) (Q : Bool → Prop) : V59 xs f Q = vcFunc (S0 [(93, f93_ct)] []) f59_ct.own f59_ct.fresh no_an Try.f59 (bodyOf Try.f59) f59_ct.A f59_ct.C f59_ct.R (xs, f, ()) () Q := by kernel_rfl

def V94 (xs : List Spring) (f : (Int × Int) × Int × Int → (Bool → Prop) → Prop) (Q : Int → Prop) : Prop := List.length xs ≤ (9223372036854775807 : Nat) → ∃ (I : Int → Prop), ∃ (μ : Int → Nat), I (0 : Int) ∧ ∀ (x : Int), I x → cnd (decide (x < (↑(List.length xs) : Int))) ((0 : Int) ≤ x ∧ x < (↑(List.length xs) : Int) ∧ Prod.fst (f, ()) ((Prod.fst (Prod.fst (List.getD xs (Int.toNat x) (((0 : Int), (0 : Int)), (0 : Int), (0 : Int)))), Prod.snd (Prod.fst (List.getD xs (Int.toNat x) (((0 : Int), (0 : Int)), (0 : Int), (0 : Int))))), Prod.fst (Prod.snd (List.getD xs (Int.toNat x) (((0 : Int), (0 : Int)), (0 : Int), (0 : Int)))), Prod.snd (Prod.snd (List.getD xs (Int.toNat x) (((0 : Int), (0 : Int)), (0 : Int), (0 : Int))))) fun (r : Bool) ↦ cnd r (Q x) (I (IntKind.wrap IntKind.i64 (x + (1 : Int))) ∧ μ (IntKind.wrap IntKind.i64 (x + (1 : Int))) < μ x)) (Q (-1 : Int))
theorem v94 (xs : List Spring) (f : (Int × Int) × Int × Int → (Bool → Prop) → Prop) (Q : Int → Prop) : V94 xs f Q = vcFunc (S0 [] []) f94_ct.own f94_ct.fresh idx_an Try.f94 (bodyOf Try.f94) f94_ct.A f94_ct.C f94_ct.R (xs, f, ()) () Q := by kernel_rfl

def V62 (xs : List Spring) (f : (Int × Int) × Int × Int → (Bool → Prop) → Prop) (Q : Bool → Prop) : Prop := f94_wp (xs, f, ()) () fun (r : Int) ↦ Q (decide (r ≥ (0 : Int)))
theorem v62 (xs : List Spring) (f : (Int × Int) × Int × Int → (Bool → Prop) → Prop) (Q : Bool → Prop) : V62 xs f Q = vcFunc (S0 [(94, f94_ct)] []) f62_ct.own f62_ct.fresh no_an Try.f62 (bodyOf Try.f62) f62_ct.A f62_ct.C f62_ct.R (xs, f, ()) () Q := by kernel_rfl

def V101 (xs : List (List Int)) (f : List Int → (Bool → Prop) → Prop) (Q : Int → Prop) : Prop := List.length xs ≤ (9223372036854775807 : Nat) → ∃ (I : Int → Prop), ∃ (μ : Int → Nat), I (0 : Int) ∧ ∀ (x : Int), I x → cnd (decide (x < (↑(List.length xs) : Int))) ((0 : Int) ≤ x ∧ x < (↑(List.length xs) : Int) ∧ Prod.fst (f, ()) (List.getD xs (Int.toNat x) ([] : List Int)) fun (r : Bool) ↦ cnd r (Q x) (I (IntKind.wrap IntKind.i64 (x + (1 : Int))) ∧ μ (IntKind.wrap IntKind.i64 (x + (1 : Int))) < μ x)) (Q (-1 : Int))
theorem v101 (xs : List (List Int)) (f : List Int → (Bool → Prop) → Prop) (Q : Int → Prop) : V101 xs f Q = vcFunc (S0 [] []) f101_ct.own f101_ct.fresh idx_an Try.f101 (bodyOf Try.f101) f101_ct.A f101_ct.C f101_ct.R (xs, f, ()) () Q := by kernel_rfl

def V85 (xs : List (List Int)) (f : List Int → (Bool → Prop) → Prop) (Q : Bool → Prop) : Prop := f101_wp (xs, f, ()) () fun (r : Int) ↦ Q (decide (r ≥ (0 : Int)))
theorem v85 (xs : List (List Int)) (f : List Int → (Bool → Prop) → Prop) (Q : Bool → Prop) : V85 xs f Q = vcFunc (S0 [(101, f101_ct)] []) f85_ct.own f85_ct.fresh no_an Try.f85 (bodyOf Try.f85) f85_ct.A f85_ct.C f85_ct.R (xs, f, ()) () Q := by kernel_rfl

def V58 (lo : Int) (hi : Int) (xs : List Int) (Q : Bool → Prop) : Prop := f91_wp (xs, fun (x : Int) (Q : Bool → Prop) ↦ f92_wp x (lo, hi, ()) fun (r : Bool) ↦ Q r, ()) () fun (r : Bool) ↦ Q !r
theorem v58 (lo : Int) (hi : Int) (xs : List Int) (Q : Bool → Prop) : V58 lo hi xs Q = vcFunc (S0 [(91, f91_ct), (92, f92_ct)] []) f58_ct.own f58_ct.fresh no_an Try.f58 (bodyOf Try.f58) f58_ct.A f58_ct.C f58_ct.R (lo, hi, xs, ()) () Q := by kernel_rfl

def V61 (l : Int × Int) (Q : Bool → Prop) : Prop := f58_wp ((1 : Int), (200 : Int), l.1 :: ([] : List Int), ()) () fun (r : Bool) ↦ cnd r (f58_wp ((0 : Int), (200 : Int), l.2 :: ([] : List Int), ()) () fun (r : Bool) ↦ Q r) (Q false)
theorem v61 (l : Int × Int) (Q : Bool → Prop) : V61 l Q = vcFunc (S0 [(58, f58_ct)] []) f61_ct.own f61_ct.fresh no_an Try.f61 (bodyOf Try.f61) f61_ct.A f61_ct.C f61_ct.R l () Q := by kernel_rfl

def V60 (l : Int × Int) (Q : Bool → Prop) : Prop := f61_wp (l.1, l.2) () fun (r : Bool) ↦ Q !r
theorem v60 (l : Int × Int) (Q : Bool → Prop) : V60 l Q = vcFunc (S0 [(61, f61_ct)] []) f60_ct.own f60_ct.fresh no_an Try.f60 (bodyOf Try.f60) f60_ct.A f60_ct.C f60_ct.R l () Q := by kernel_rfl

def V64 (s : (Int × Int) × Int × Int) (Q : Bool → Prop) : Prop := f58_wp ((2 : Int), (40 : Int), s.1.1 :: s.1.2 :: ([] : List Int), ()) () fun (r : Bool) ↦ cnd r (cnd (decide (s.1.1 ≤ s.1.2)) (f58_wp ((0 : Int), (4 : Int), s.2.1 :: ([] : List Int), ()) () fun (r : Bool) ↦ cnd r (f58_wp ((1 : Int), (200 : Int), s.2.2 :: ([] : List Int), ()) () fun (r : Bool) ↦ Q r) (Q false)) (Q false)) (Q false)
theorem v64 (s : (Int × Int) × Int × Int) (Q : Bool → Prop) : V64 s Q = vcFunc (S0 [(58, f58_ct)] []) f64_ct.own f64_ct.fresh no_an Try.f64 (bodyOf Try.f64) f64_ct.A f64_ct.C f64_ct.R s () Q := by kernel_rfl

def V63 (s : (Int × Int) × Int × Int) (Q : Bool → Prop) : Prop := f64_wp ((s.1.1, s.1.2), s.2.1, s.2.2) () fun (r : Bool) ↦ Q !r
theorem v63 (s : (Int × Int) × Int × Int) (Q : Bool → Prop) : V63 s Q = vcFunc (S0 [(64, f64_ct)] []) f63_ct.own f63_ct.fresh no_an Try.f63 (bodyOf Try.f63) f63_ct.A f63_ct.C f63_ct.R s () Q := by kernel_rfl

def V20 (s : List Int × Int × List (Int × Int)) (f : List Spring) (Q : Int → Prop) : Prop := List.length s.1 ≤ (9223372036854775807 : Nat) → cnd (decide ((↑(List.length s.1) : Int) > (6 : Int))) (Q (5 : Int)) (List.length s.2.2 ≤ (9223372036854775807 : Nat) → cnd (decide ((↑(List.length s.2.2) : Int) > (5 : Int))) (Q (5 : Int)) (f58_wp ((1 : Int), (200 : Int), s.1, ()) () fun (r : Bool) ↦ cnd (!r) (Q (2 : Int)) (f58_wp ((0 : Int), (10 : Int), s.2.1 :: ([] : List Int), ()) () fun (r : Bool) ↦ cnd (!r) (Q (2 : Int)) (f59_wp (s.2.2, fun (x : Int × Int) (Q : Bool → Prop) ↦ f60_wp x () fun (r : Bool) ↦ Q r, ()) () fun (r : Bool) ↦ cnd r (Q (2 : Int)) (List.length f ≤ (9223372036854775807 : Nat) → f58_wp ((1 : Int), (4 : Int), (↑(List.length f) : Int) :: ([] : List Int), ()) () fun (r : Bool) ↦ cnd (!r) (Q (4 : Int)) (f62_wp (f, fun (x : (Int × Int) × Int × Int) (Q : Bool → Prop) ↦ f63_wp x () fun (r : Bool) ↦ Q r, ()) () fun (r : Bool) ↦ cnd r (Q (3 : Int)) (Q (0 : Int))))))))
theorem v20 (s : List Int × Int × List (Int × Int)) (f : List Spring) (Q : Int → Prop) : V20 s f Q = vcFunc (S0 [(58, f58_ct), (59, f59_ct), (60, f60_ct), (62, f62_ct), (63, f63_ct)] []) f20_ct.own f20_ct.fresh no_an Try.f20 (bodyOf Try.f20) f20_ct.A f20_ct.C f20_ct.R (s, f, ()) () Q := by kernel_rfl

def V78 (n : Int) (Q : Bool → Prop) : Prop := f58_wp ((1 : Int), (200 : Int), n :: ([] : List Int), ()) () fun (r : Bool) ↦ Q r
theorem v78 (n : Int) (Q : Bool → Prop) : V78 n Q = vcFunc (S0 [(58, f58_ct)] []) f78_ct.own f78_ct.fresh no_an Try.f78 (bodyOf Try.f78) f78_ct.A f78_ct.C f78_ct.R n () Q := by kernel_rfl

def V79 (xs : List Int) (Q : List Int → Prop) : Prop := ∀ (b : Bool), (b = true → xs = ([] : List Int)) → cnd b (Q ([] : List Int)) ((List.length ([] : List Int) + List.length xs) * (8 : Nat) ≤ (140737488355328 : Nat) ∧ Q (([] : List Int) ++ xs))
theorem v79 (xs : List Int) (Q : List Int → Prop) : V79 xs Q = vcFunc (S0 [] [300]) f79_ct.own f79_ct.fresh no_an Try.f79 (bodyOf Try.f79) f79_ct.A f79_ct.C f79_ct.R xs () Q := by kernel_rfl

def V106 (n : Int) (Q : Bool → Prop) : Prop := Q (n != n)
theorem v106 (n : Int) (Q : Bool → Prop) : V106 n Q = vcFunc (S0 [] []) f106_ct.own f106_ct.fresh no_an Try.f106 (bodyOf Try.f106) f106_ct.A f106_ct.C f106_ct.R n () Q := by kernel_rfl

def V100 (a : Int) (b : Int) (Q : Bool → Prop) : Prop := f106_wp a () fun (r : Bool) ↦ cnd r (f106_wp b () fun (r : Bool) ↦ cnd (!r) (Q true) (Q (decide (a < b)))) (Q (decide (a < b)))
theorem v100 (a : Int) (b : Int) (Q : Bool → Prop) : V100 a b Q = vcFunc (S0 [(106, f106_ct)] []) f100_ct.own f100_ct.fresh no_an Try.f100 (bodyOf Try.f100) f100_ct.A f100_ct.C f100_ct.R (a, b, ()) () Q := by kernel_rfl

def V103 (a : Int) (b : Int) (Q : Int → Prop) : Prop := f106_wp a () fun (r : Bool) ↦ f106_wp b () fun (r_1 : Bool) ↦ cnd r (cnd r_1 (Q (0 : Int)) (Q (-1 : Int))) (cnd r_1 (Q (1 : Int)) (cnd (decide (a < b)) (Q (-1 : Int)) (cnd (decide (a > b)) (Q (1 : Int)) (Q (0 : Int)))))
theorem v103 (a : Int) (b : Int) (Q : Int → Prop) : V103 a b Q = vcFunc (S0 [(106, f106_ct)] []) f103_ct.own f103_ct.fresh no_an Try.f103 (bodyOf Try.f103) f103_ct.A f103_ct.C f103_ct.R (a, b, ()) () Q := by kernel_rfl

def V89 (a : List Int) (b : List Int) (Q : Int → Prop) : Prop := List.length a ≤ (9223372036854775807 : Nat) → ∃ (I : Int → Prop), ∃ (μ : Int → Nat), I (0 : Int) ∧ ∀ (x : Int), I x → cnd (decide (x < (↑(List.length a) : Int))) ((0 : Int) ≤ x ∧ x < (↑(List.length a) : Int) ∧ (List.length b ≤ (9223372036854775807 : Nat) → cnd (decide (x ≥ (↑(List.length b) : Int))) (Q (1 : Int)) ((0 : Int) ≤ x ∧ x < (↑(List.length b) : Int) ∧ f103_wp (List.getD a (Int.toNat x) (0 : Int), List.getD b (Int.toNat x) (0 : Int), ()) () fun (r : Int) ↦ cnd (r != (0 : Int)) (Q r) (I (IntKind.wrap IntKind.i64 (x + (1 : Int))) ∧ μ (IntKind.wrap IntKind.i64 (x + (1 : Int))) < μ x)))) (List.length a ≤ (9223372036854775807 : Nat) → List.length b ≤ (9223372036854775807 : Nat) → cnd (decide ((↑(List.length a) : Int) < (↑(List.length b) : Int))) (Q (-1 : Int)) (Q (0 : Int)))
theorem v89 (a : List Int) (b : List Int) (Q : Int → Prop) : V89 a b Q = vcFunc (S0 [(103, f103_ct)] []) f89_ct.own f89_ct.fresh f89_an Try.f89 (bodyOf Try.f89) f89_ct.A f89_ct.C f89_ct.R (a, b, ()) () Q := by kernel_rfl

def V84 (xs : List Int) (Q : Bool → Prop) : Prop := List.length xs ≤ (9223372036854775807 : Nat) → ∃ (I : Int → Prop), ∃ (μ : Int → Nat), I (IntKind.wrap IntKind.i64 ((↑(List.length xs) : Int) - (1 : Int))) ∧ ∀ (x : Int), I x → cnd (decide (x > (0 : Int))) ((0 : Int) ≤ x ∧ x < (↑(List.length xs) : Int) ∧ (0 : Int) ≤ IntKind.wrap IntKind.i64 (x - (1 : Int)) ∧ IntKind.wrap IntKind.i64 (x - (1 : Int)) < (↑(List.length xs) : Int) ∧ ∃ (r : Bool), (f100_wp (List.getD xs (Int.toNat x) (0 : Int), List.getD xs (Int.toNat (IntKind.wrap IntKind.i64 (x - (1 : Int)))) (0 : Int), ()) () fun (r' : Bool) ↦ r' = r) ∧ cnd r (Q false) (I (IntKind.wrap IntKind.i64 (x - (1 : Int))) ∧ μ (IntKind.wrap IntKind.i64 (x - (1 : Int))) < μ x)) (Q true)
theorem v84 (xs : List Int) (Q : Bool → Prop) : V84 xs Q = vcFunc (S0 [(100, f100_ct)] []) f84_ct.own f84_ct.fresh f84_an Try.f84 (bodyOf Try.f84) f84_ct.A f84_ct.C f84_ct.R xs () Q := by kernel_rfl

def V110 (a : Int) (b : Int) (Q : Int × Int × Unit → Prop) : Prop := (0 : Int) ≤ (32 : Int) ∧ (0 : Int) ≤ (32 : Int) ∧ (0 : Int) ≤ (32 : Int) ∧ (0 : Int) ≤ (32 : Int) ∧ (0 : Int) ≤ (32 : Int) ∧ Q (IntKind.wrap IntKind.u64 (IntKind.wrap IntKind.u64 (IntKind.wrap IntKind.u64 (Int.fdiv a ((2 : Int) ^ min (Int.toNat (32 : Int)) (IntKind.bits IntKind.u64)) * Int.fdiv b ((2 : Int) ^ min (Int.toNat (32 : Int)) (IntKind.bits IntKind.u64))) + Int.fdiv (IntKind.wrap IntKind.u64 (IntKind.wrap IntKind.u64 (Int.fdiv a ((2 : Int) ^ min (Int.toNat (32 : Int)) (IntKind.bits IntKind.u64)) * IntKind.wrap IntKind.u64 (↑(BitVec.toNat (BitVec.ofInt (IntKind.bits IntKind.u64) b &&& BitVec.ofInt (IntKind.bits IntKind.u64) (4294967295 : Int))) : Int)) + Int.fdiv (IntKind.wrap IntKind.u64 (IntKind.wrap IntKind.u64 (↑(BitVec.toNat (BitVec.ofInt (IntKind.bits IntKind.u64) a &&& BitVec.ofInt (IntKind.bits IntKind.u64) (4294967295 : Int))) : Int) * IntKind.wrap IntKind.u64 (↑(BitVec.toNat (BitVec.ofInt (IntKind.bits IntKind.u64) b &&& BitVec.ofInt (IntKind.bits IntKind.u64) (4294967295 : Int))) : Int))) ((2 : Int) ^ min (Int.toNat (32 : Int)) (IntKind.bits IntKind.u64)))) ((2 : Int) ^ min (Int.toNat (32 : Int)) (IntKind.bits IntKind.u64))) + Int.fdiv (IntKind.wrap IntKind.u64 (IntKind.wrap IntKind.u64 (↑(BitVec.toNat (BitVec.ofInt (IntKind.bits IntKind.u64) (IntKind.wrap IntKind.u64 (IntKind.wrap IntKind.u64 (Int.fdiv a ((2 : Int) ^ min (Int.toNat (32 : Int)) (IntKind.bits IntKind.u64)) * IntKind.wrap IntKind.u64 (↑(BitVec.toNat (BitVec.ofInt (IntKind.bits IntKind.u64) b &&& BitVec.ofInt (IntKind.bits IntKind.u64) (4294967295 : Int))) : Int)) + Int.fdiv (IntKind.wrap IntKind.u64 (IntKind.wrap IntKind.u64 (↑(BitVec.toNat (BitVec.ofInt (IntKind.bits IntKind.u64) a &&& BitVec.ofInt (IntKind.bits IntKind.u64) (4294967295 : Int))) : Int) * IntKind.wrap IntKind.u64 (↑(BitVec.toNat (BitVec.ofInt (IntKind.bits IntKind.u64) b &&& BitVec.ofInt (IntKind.bits IntKind.u64) (4294967295 : Int))) : Int))) ((2 : Int) ^ min (Int.toNat (32 : Int)) (IntKind.bits IntKind.u64)))) &&& BitVec.ofInt (IntKind.bits IntKind.u64) (4294967295 : Int))) : Int) + IntKind.wrap IntKind.u64 (IntKind.wrap IntKind.u64 (↑(BitVec.toNat (BitVec.ofInt (IntKind.bits IntKind.u64) a &&& BitVec.ofInt (IntKind.bits IntKind.u64) (4294967295 : Int))) : Int) * Int.fdiv b ((2 : Int) ^ min (Int.toNat (32 : Int)) (IntKind.bits IntKind.u64))))) ((2 : Int) ^ min (Int.toNat (32 : Int)) (IntKind.bits IntKind.u64))), IntKind.wrap IntKind.u64 (a * b), ())
theorem v110 (a : Int) (b : Int) (Q : Int × Int × Unit → Prop) : V110 a b Q = vcFunc (S0 [] []) f110_ct.own f110_ct.fresh no_an Try.f110 (bodyOf Try.f110) f110_ct.A f110_ct.C f110_ct.R (a, b, ()) () Q := by kernel_rfl

def V108 (a : Int) (b : Int) (Q : Int × Int × Unit → Prop) : Prop := f110_wp (a, b, ()) () fun (r : Int × Int × Unit) ↦ Q (r.1, r.2.1, ())
theorem v108 (a : Int) (b : Int) (Q : Int × Int × Unit → Prop) : V108 a b Q = vcFunc (S0 [(110, f110_ct)] []) f108_ct.own f108_ct.fresh no_an Try.f108 (bodyOf Try.f108) f108_ct.A f108_ct.C f108_ct.R (a, b, ()) () Q := by kernel_rfl

def V107 (xs : List Int) (n : Int) (Q : List Int → Prop) : Prop := cnd (decide (n < (0 : Int))) False (List.length xs ≤ (9223372036854775807 : Nat) → f108_wp (IntKind.wrap IntKind.u64 (↑(List.length xs) : Int), IntKind.wrap IntKind.u64 n, ()) () fun (r : Int × Int × Unit) ↦ cnd (decide (r.1 > (0 : Int))) False (cnd (decide (r.2.1 > (9223372036854775807 : Int))) False (IntKind.wrap IntKind.i64 r.2.1 = IntKind.wrap IntKind.i64 r.2.1 ∧ (0 : Int) ≤ IntKind.wrap IntKind.i64 r.2.1 ∧ IntKind.wrap IntKind.i64 r.2.1 * (↑(8 : Nat) : Int) ≤ (140737488355328 : Int) ∧ ∃ (I : Int → List Int → Prop), ∃ (μ : Int → List Int → Nat), I (↑(min (List.length (List.replicate (Int.toNat (IntKind.wrap IntKind.i64 r.2.1)) (0 : Int)) - (0 : Nat)) (List.length xs)) : Int) (List.take (0 : Nat) (List.replicate (Int.toNat (IntKind.wrap IntKind.i64 r.2.1)) (0 : Int)) ++ List.take (min (List.length (List.replicate (Int.toNat (IntKind.wrap IntKind.i64 r.2.1)) (0 : Int)) - (0 : Nat)) (List.length xs)) xs ++ List.drop ((0 : Nat) + min (List.length (List.replicate (Int.toNat (IntKind.wrap IntKind.i64 r.2.1)) (0 : Int)) - (0 : Nat)) (List.length xs)) (List.replicate (Int.toNat (IntKind.wrap IntKind.i64 r.2.1)) (0 : Int))) ∧ ∀ (x : Int) (x_1 : List Int), I x x_1 → List.length x_1 ≤ (9223372036854775807 : Nat) → cnd (decide (x < (↑(List.length x_1) : Int))) ((0 : Int) ≤ x ∧ x ≤ (↑(List.length x_1) : Int) ∧ (↑(List.length x_1) : Int) ≤ (↑(List.length x_1) : Int) ∧ (0 : Int) ≤ (0 : Int) ∧ (0 : Int) ≤ x ∧ x ≤ (↑(List.length x_1) : Int) ∧ I (IntKind.wrap IntKind.i64 (x + (↑(min (Int.toNat (↑(List.length x_1) : Int) - Int.toNat x) (List.length (List.drop (Int.toNat (0 : Int)) (List.take (Int.toNat x) x_1)))) : Int))) (List.take (Int.toNat x) x_1 ++ List.take (min (Int.toNat (↑(List.length x_1) : Int) - Int.toNat x) (List.length (List.drop (Int.toNat (0 : Int)) (List.take (Int.toNat x) x_1)))) (List.drop (Int.toNat (0 : Int)) (List.take (Int.toNat x) x_1)) ++ List.drop (Int.toNat x + min (Int.toNat (↑(List.length x_1) : Int) - Int.toNat x) (List.length (List.drop (Int.toNat (0 : Int)) (List.take (Int.toNat x) x_1)))) x_1) ∧ μ (IntKind.wrap IntKind.i64 (x + (↑(min (Int.toNat (↑(List.length x_1) : Int) - Int.toNat x) (List.length (List.drop (Int.toNat (0 : Int)) (List.take (Int.toNat x) x_1)))) : Int))) (List.take (Int.toNat x) x_1 ++ List.take (min (Int.toNat (↑(List.length x_1) : Int) - Int.toNat x) (List.length (List.drop (Int.toNat (0 : Int)) (List.take (Int.toNat x) x_1)))) (List.drop (Int.toNat (0 : Int)) (List.take (Int.toNat x) x_1)) ++ List.drop (Int.toNat x + min (Int.toNat (↑(List.length x_1) : Int) - Int.toNat x) (List.length (List.drop (Int.toNat (0 : Int)) (List.take (Int.toNat x) x_1)))) x_1) < μ x x_1) (Q x_1))))
theorem v107 (xs : List Int) (n : Int) (Q : List Int → Prop) : V107 xs n Q = vcFunc (S0 [(108, f108_ct)] [903,906]) f107_ct.own f107_ct.fresh f107_an Try.f107 (bodyOf Try.f107) f107_ct.A f107_ct.C f107_ct.R (xs, n, ()) () Q := by kernel_rfl

end Go.Proofs.Fa
namespace Go.Proofs.Fa
open Go Go.GX
theorem wrapS {x : Int} (h1 : -9223372036854775808 ≤ x) (h2 : x ≤ 9223372036854775807) : IntKind.wrap .i64 x = x := by
  have hb : (2 : Int) ^ IntKind.i64.bits = 18446744073709551616 := rfl
  have hb' : (2 : Int) ^ (IntKind.i64.bits - 1) = 9223372036854775808 := rfl
  have hs : IntKind.i64.signed = true := rfl
  unfold IntKind.wrap
  simp only [hb, hb', hs, Bool.true_and, decide_eq_true_eq]
  split <;> omega
theorem cndT {p q : Prop} (h : p) : cnd true p q := h
theorem cndF {p q : Prop} (h : q) : cnd false p q := h

theorem forUp {σ : Type} {n : Nat} (hn : n ≤ 9223372036854775807) (F : Nat → σ) {s0 : σ} (h0 : s0 = F 0) {body : (Int → σ → Prop) → (Int → σ → Nat) → Int → σ → Prop}
    (hb : ∀ k : Nat, k < n → ∀ (I : Int → σ → Prop) (μ : Int → σ → Nat), (I (k + 1 : Int) (F (k + 1)) ∧ μ (k + 1 : Int) (F (k + 1)) < μ k (F k)) → IntKind.wrap .i64 ((k : Int) + 1) = k + 1 → body I μ k (F k))
    {e : Int → σ → Prop} (he : e n (F n)) :
    ∃ (I : Int → σ → Prop) (μ : Int → σ → Nat), I 0 s0 ∧ ∀ x s, I x s → cnd (decide (x < (n : Int))) (body I μ x s) (e x s) := by
  refine ⟨fun x s => ∃ k : Nat, k ≤ n ∧ x = k ∧ s = F k, fun x _ => (n - x).toNat, ⟨0, Nat.zero_le _, rfl, h0⟩, ?_⟩
  rintro x s ⟨k, hk, rfl, rfl⟩
  refine cnd_iff.2 ⟨fun h => ?_, fun h => ?_⟩
  · have h : (k : Int) < n := of_decide_eq_true h
    refine hb k (by omega) _ _ ⟨⟨k + 1, by omega, by push_cast; rfl, rfl⟩, by omega⟩ (wrapS (by omega) (by omega))
  · have h : ¬ (k : Int) < n := of_decide_eq_false h
    have : k = n := by omega
    subst this
    exact he

theorem forUpG {n : Nat} (hn : n ≤ 9223372036854775807) (go : Nat → Prop) (h0 : go 0) {body : (Int → Prop) → (Int → Nat) → Int → Prop}
    (hb : ∀ k : Nat, k < n → go k → ∀ (I : Int → Prop) (μ : Int → Nat), (go (k + 1) → I (k + 1 : Int) ∧ μ (k + 1 : Int) < μ k) → IntKind.wrap .i64 ((k : Int) + 1) = k + 1 → body I μ k)
    {e : Int → Prop} (he : go n → e n) :
    ∃ (I : Int → Prop) (μ : Int → Nat), I 0 ∧ ∀ x, I x → cnd (decide (x < (n : Int))) (body I μ x) (e x) := by
  refine ⟨fun x => ∃ k : Nat, k ≤ n ∧ x = k ∧ go k, fun x => (n - x).toNat, ⟨0, Nat.zero_le _, rfl, h0⟩, ?_⟩
  rintro x ⟨k, hk, rfl, hg⟩
  refine cnd_iff.2 ⟨fun h => ?_, fun h => ?_⟩
  · have h : (k : Int) < n := of_decide_eq_true h
    refine hb k (by omega) hg _ _ (fun hg' => ⟨⟨k + 1, by omega, by push_cast; rfl, hg'⟩, by omega⟩) (wrapS (by omega) (by omega))
  · have h : ¬ (k : Int) < n := of_decide_eq_false h
    have : k = n := by omega
    subst this
    exact he hg

theorem forUpGS {σ : Type} {n : Nat} (hn : n ≤ 9223372036854775807) (go : Nat → Prop) (F : Nat → σ) (h0 : go 0) {s0 : σ} (hs0 : s0 = F 0) {body : (Int → σ → Prop) → (Int → σ → Nat) → Int → σ → Prop}
    (hb : ∀ k : Nat, k < n → go k → ∀ (I : Int → σ → Prop) (μ : Int → σ → Nat), (go (k + 1) → I (k + 1 : Int) (F (k + 1)) ∧ μ (k + 1 : Int) (F (k + 1)) < μ k (F k)) → IntKind.wrap .i64 ((k : Int) + 1) = k + 1 → body I μ k (F k))
    {e : Int → σ → Prop} (he : go n → e n (F n)) :
    ∃ (I : Int → σ → Prop) (μ : Int → σ → Nat), I 0 s0 ∧ ∀ x s, I x s → cnd (decide (x < (n : Int))) (body I μ x s) (e x s) := by
  refine ⟨fun x s => ∃ k : Nat, k ≤ n ∧ x = k ∧ s = F k ∧ go k, fun x _ => (n - x).toNat, ⟨0, Nat.zero_le _, rfl, hs0, h0⟩, ?_⟩
  rintro x s ⟨k, hk, rfl, rfl, hg⟩
  refine cnd_iff.2 ⟨fun h => ?_, fun h => ?_⟩
  · have h : (k : Int) < n := of_decide_eq_true h
    refine hb k (by omega) hg _ _ (fun hg' => ⟨⟨k + 1, by omega, by push_cast; rfl, rfl, hg'⟩, by omega⟩) (wrapS (by omega) (by omega))
  · have h : ¬ (k : Int) < n := of_decide_eq_false h
    have : k = n := by omega
    subst this
    exact he hg
theorem forUp2 {σ τ : Type} {n : Nat} (hn : n ≤ 9223372036854775807) (F : Nat → σ) (G : Nat → τ) {s0 : σ} {t0 : τ} (h0 : s0 = F 0) (h0' : t0 = G 0) {body : (Int → σ → τ → Prop) → (Int → σ → τ → Nat) → Int → σ → τ → Prop}
    (hb : ∀ k : Nat, k < n → ∀ (I : Int → σ → τ → Prop) (μ : Int → σ → τ → Nat), (I (k + 1 : Int) (F (k + 1)) (G (k + 1)) ∧ μ (k + 1 : Int) (F (k + 1)) (G (k + 1)) < μ k (F k) (G k)) → IntKind.wrap .i64 ((k : Int) + 1) = k + 1 → body I μ k (F k) (G k))
    {e : Int → σ → τ → Prop} (he : e n (F n) (G n)) :
    ∃ (I : Int → σ → τ → Prop) (μ : Int → σ → τ → Nat), I 0 s0 t0 ∧ ∀ x s t, I x s t → cnd (decide (x < (n : Int))) (body I μ x s t) (e x s t) := by
  refine ⟨fun x s t => ∃ k : Nat, k ≤ n ∧ x = k ∧ s = F k ∧ t = G k, fun x _ _ => (n - x).toNat, ⟨0, Nat.zero_le _, rfl, h0, h0'⟩, ?_⟩
  rintro x s t ⟨k, hk, rfl, rfl, rfl⟩
  refine cnd_iff.2 ⟨fun h => ?_, fun h => ?_⟩
  · have h : (k : Int) < n := of_decide_eq_true h
    refine hb k (by omega) _ _ ⟨⟨k + 1, by omega, by push_cast; rfl, rfl, rfl⟩, by omega⟩ (wrapS (by omega) (by omega))
  · have h : ¬ (k : Int) < n := of_decide_eq_false h
    have : k = n := by omega
    subst this
    exact he

theorem forUpGS2 {σ τ : Type} {n : Nat} (hn : n ≤ 9223372036854775807) (go : Nat → σ → τ → Prop) {s0 : σ} {t0 : τ} (h0 : go 0 s0 t0) {body : (Int → σ → τ → Prop) → (Int → σ → τ → Nat) → Int → σ → τ → Prop}
    (hb : ∀ k : Nat, k < n → ∀ s t, go k s t → ∀ (I : Int → σ → τ → Prop) (μ : Int → σ → τ → Nat), (∀ s' t', go (k + 1) s' t' → I (k + 1 : Int) s' t' ∧ μ (k + 1 : Int) s' t' < μ k s t) → IntKind.wrap .i64 ((k : Int) + 1) = k + 1 → body I μ k s t)
    {e : Int → σ → τ → Prop} (he : ∀ s t, go n s t → e n s t) :
    ∃ (I : Int → σ → τ → Prop) (μ : Int → σ → τ → Nat), I 0 s0 t0 ∧ ∀ x s t, I x s t → cnd (decide (x < (n : Int))) (body I μ x s t) (e x s t) := by
  refine ⟨fun x s t => ∃ k : Nat, k ≤ n ∧ x = k ∧ go k s t, fun x _ _ => (n - x).toNat, ⟨0, Nat.zero_le _, rfl, h0⟩, ?_⟩
  rintro x s t ⟨k, hk, rfl, hg⟩
  refine cnd_iff.2 ⟨fun h => ?_, fun h => ?_⟩
  · have h : (k : Int) < n := of_decide_eq_true h
    refine hb k (by omega) s t hg _ _ (fun s' t' hg' => ⟨⟨k + 1, by omega, by push_cast; rfl, hg'⟩, by omega⟩) (wrapS (by omega) (by omega))
  · have h : ¬ (k : Int) < n := of_decide_eq_false h
    have : k = n := by omega
    subst this
    exact he s t hg

theorem forUpGL {n : Nat} (go : Nat → Prop) (h0 : go 0) {body : (Int → Prop) → (Int → Nat) → Int → Prop}
    (hb : ∀ k : Nat, k < n → go k → n ≤ 9223372036854775807 → ∀ (I : Int → Prop) (μ : Int → Nat), (go (k + 1) → I (k + 1 : Int) ∧ μ (k + 1 : Int) < μ k) → IntKind.wrap .i64 ((k : Int) + 1) = k + 1 → body I μ k)
    {e : Int → Prop} (he : go n → e n) :
    ∃ (I : Int → Prop) (μ : Int → Nat), I 0 ∧ ∀ x, I x → n ≤ 9223372036854775807 → cnd (decide (x < (n : Int))) (body I μ x) (e x) := by
  refine ⟨fun x => ∃ k : Nat, k ≤ n ∧ x = k ∧ go k, fun x => (n - x).toNat, ⟨0, Nat.zero_le _, rfl, h0⟩, ?_⟩
  rintro x ⟨k, hk, rfl, hg⟩ hn
  refine cnd_iff.2 ⟨fun h => ?_, fun h => ?_⟩
  · have h : (k : Int) < n := of_decide_eq_true h
    refine hb k (by omega) hg hn _ _ (fun hg' => ⟨⟨k + 1, by omega, by push_cast; rfl, hg'⟩, by omega⟩) (wrapS (by omega) (by omega))
  · have h : ¬ (k : Int) < n := of_decide_eq_false h
    have : k = n := by omega
    subst this
    exact he hg
theorem forUpL {σ : Type} {n : Nat} (F : Nat → σ) {s0 : σ} (h0 : s0 = F 0) {body : (Int → σ → Prop) → (Int → σ → Nat) → Int → σ → Prop}
    (hb : ∀ k : Nat, k < n → ∀ (I : Int → σ → Prop) (μ : Int → σ → Nat), (I (k + 1 : Int) (F (k + 1)) ∧ μ (k + 1 : Int) (F (k + 1)) < μ k (F k)) → IntKind.wrap .i64 ((k : Int) + 1) = k + 1 → body I μ k (F k))
    {e : Int → σ → Prop} (he : e n (F n)) :
    ∃ (I : Int → σ → Prop) (μ : Int → σ → Nat), I 0 s0 ∧ ∀ x s, I x s → n ≤ 9223372036854775807 → cnd (decide (x < (n : Int))) (body I μ x s) (e x s) := by
  refine ⟨fun x s => ∃ k : Nat, k ≤ n ∧ x = k ∧ s = F k, fun x _ => (n - x).toNat, ⟨0, Nat.zero_le _, rfl, h0⟩, ?_⟩
  rintro x s ⟨k, hk, rfl, rfl⟩ hn
  refine cnd_iff.2 ⟨fun h => ?_, fun h => ?_⟩
  · have h : (k : Int) < n := of_decide_eq_true h
    refine hb k (by omega) _ _ ⟨⟨k + 1, by omega, by push_cast; rfl, rfl⟩, by omega⟩ (wrapS (by omega) (by omega))
  · have h : ¬ (k : Int) < n := of_decide_eq_false h
    have : k = n := by omega
    subst this
    exact he
theorem foldl_succ {α : Type} (f : α → Nat → α) (a : α) (k : Nat) : (List.range (k + 1)).foldl f a = f ((List.range k).foldl f a) k := by simp [List.range_succ]
theorem getD_lt {α : Type} {l : List α} {k : Nat} {d : α} (h : k < l.length) : l.getD k d = l[k] := by simp [List.getD, h]
theorem getD_mem {α : Type} {l : List α} {k : Nat} {d : α} (h : k < l.length) : l.getD k d ∈ l := by
  rw [getD_lt h]; exact List.getElem_mem h
theorem idxF_at {α : Type} {p : α → Bool} {xs : List α} {d : α} {k : Nat} (hk : k < xs.length) (h1 : ∀ j, j < k → p (xs.getD j d) = false) (h2 : p (xs.getD k d) = true) : idxF p xs = k := by
  have : xs.findIdx? p = some k := by
    rw [List.findIdx?_eq_some_iff_getElem]
    refine ⟨hk, by rwa [getD_lt hk] at h2, fun j hj => ?_⟩
    have := h1 j hj
    rw [getD_lt (by omega)] at this
    simp [this]
  simp [idxF, this]
theorem idxF_none {α : Type} {p : α → Bool} {xs : List α} {d : α} (h1 : ∀ j, j < xs.length → p (xs.getD j d) = false) : idxF p xs = -1 := by
  have : xs.findIdx? p = none := by
    rw [List.findIdx?_eq_none_iff]
    intro x hx
    obtain ⟨j, hj, rfl⟩ := List.mem_iff_getElem.1 hx
    have := h1 j hj
    rwa [getD_lt hj] at this
  simp [idxF, this]
theorem idxF_ge {α : Type} (p : α → Bool) (xs : List α) : decide (idxF p xs ≥ 0) = xs.any p := by
  cases h : xs.findIdx? p with
  | some i =>
    have h2 := List.findIdx?_isSome (xs := xs) (p := p)
    rw [h] at h2
    simp only [idxF, h]
    rw [← h2]
    simp
  | none =>
    have h2 := List.findIdx?_isSome (xs := xs) (p := p)
    rw [h] at h2
    simp only [idxF, h]
    rw [← h2]
    rfl
theorem idx_loop {α : Type} {xs : List α} {d : α} {f : α → (Bool → Prop) → Prop} {p : α → Bool} (hs : Says f p xs) {Q : Int → Prop} (h : Q (idxF p xs)) (hl : xs.length ≤ 9223372036854775807) :
    ∃ (I : Int → Prop) (μ : Int → Nat), I 0 ∧ ∀ x, I x → cnd (decide (x < (xs.length : Int))) (0 ≤ x ∧ x < (xs.length : Int) ∧ f (xs.getD x.toNat d) fun r => cnd r (Q x) (I (IntKind.wrap .i64 (x + 1)) ∧ μ (IntKind.wrap .i64 (x + 1)) < μ x)) (Q (-1)) := by
  refine forUpG hl (fun k => ∀ j, j < k → p (xs.getD j d) = false) (fun j hj => absurd hj (Nat.not_lt_zero _)) (body := fun I μ x => 0 ≤ x ∧ x < (xs.length : Int) ∧ f (xs.getD x.toNat d) fun r => cnd r (Q x) (I (IntKind.wrap .i64 (x + 1)) ∧ μ (IntKind.wrap .i64 (x + 1)) < μ x)) ?_ (e := fun _ => Q (-1)) ?_
  · intro k hk hg I μ hI hw
    refine ⟨by omega, by omega, ?_⟩
    show f (xs.getD k d) _
    refine hs _ (getD_mem hk) _ (cnd_iff.2 ⟨fun h1 => ?_, fun h1 => ?_⟩)
    · rw [idxF_at hk hg h1] at h; exact h
    · rw [hw]
      refine hI fun j hj => ?_
      rcases Nat.lt_succ_iff_lt_or_eq.1 hj with h2 | rfl
      · exact hg j h2
      · exact h1
  · intro hg
    rw [idxF_none hg] at h; exact h
end Go.Proofs.Fa
set_option linter.unusedVariables false
namespace Go.Proofs.Fa
open Go Go.GX Go.Proofs

theorem p92 {n lo hi : Int} {Q : Bool → Prop} (h : f92_wp n (lo, hi, ()) Q) : V92 n lo hi Q := by
  have h : Q (!inB lo hi n) := h
  refine cnd_iff.2 ⟨fun h1 => ?_, fun h1 => ?_⟩
  · have : (!inB lo hi n) = true := by have := of_decide_eq_true h1; simp [inB]; omega
    rwa [this] at h
  · have : (!inB lo hi n) = decide (n > hi) := by
      have := of_decide_eq_false h1
      have h3 : lo ≤ n := by omega
      by_cases h2 : n > hi
      · simp [inB, h2, h3]; try omega
      · simp [inB, h2, h3]; try omega
    rwa [this] at h
theorem p104 {xs : List Int} {f : Int → (Bool → Prop) → Prop} {Q : Int → Prop} (h : f104_wp (xs, f, ()) () Q) : V104 xs f Q := by
  obtain ⟨p, hs, hq⟩ := h
  intro hl
  exact idx_loop hs hq hl
theorem p93 {xs : List Lot} {f : Lot → (Bool → Prop) → Prop} {Q : Int → Prop} (h : f93_wp (xs, f, ()) () Q) : V93 xs f Q := by
  obtain ⟨p, hs, hq⟩ := h
  intro hl
  exact idx_loop hs hq hl
theorem p94 {xs : List Spring} {f : Spring → (Bool → Prop) → Prop} {Q : Int → Prop} (h : f94_wp (xs, f, ()) () Q) : V94 xs f Q := by
  obtain ⟨p, hs, hq⟩ := h
  intro hl
  exact idx_loop hs hq hl
theorem p101 {xs : List (List Int)} {f : List Int → (Bool → Prop) → Prop} {Q : Int → Prop} (h : f101_wp (xs, f, ()) () Q) : V101 xs f Q := by
  obtain ⟨p, hs, hq⟩ := h
  intro hl
  exact idx_loop hs hq hl
theorem p91 {xs : List Int} {f : Int → (Bool → Prop) → Prop} {Q : Bool → Prop} (h : f91_wp (xs, f, ()) () Q) : V91 xs f Q := by
  obtain ⟨p, hs, hq⟩ := h
  refine ⟨p, hs, ?_⟩
  show Q (decide (idxF p xs ≥ 0))
  rw [idxF_ge]; exact hq
theorem p59 {xs : List Lot} {f : Lot → (Bool → Prop) → Prop} {Q : Bool → Prop} (h : f59_wp (xs, f, ()) () Q) : V59 xs f Q := by
  obtain ⟨p, hs, hq⟩ := h
  refine ⟨p, hs, ?_⟩
  show Q (decide (idxF p xs ≥ 0))
  rw [idxF_ge]; exact hq
theorem p62 {xs : List Spring} {f : Spring → (Bool → Prop) → Prop} {Q : Bool → Prop} (h : f62_wp (xs, f, ()) () Q) : V62 xs f Q := by
  obtain ⟨p, hs, hq⟩ := h
  refine ⟨p, hs, ?_⟩
  show Q (decide (idxF p xs ≥ 0))
  rw [idxF_ge]; exact hq
theorem p85 {xs : List (List Int)} {f : List Int → (Bool → Prop) → Prop} {Q : Bool → Prop} (h : f85_wp (xs, f, ()) () Q) : V85 xs f Q := by
  obtain ⟨p, hs, hq⟩ := h
  refine ⟨p, hs, ?_⟩
  show Q (decide (idxF p xs ≥ 0))
  rw [idxF_ge]; exact hq
theorem any_not {α : Type} (p : α → Bool) (xs : List α) : (!(xs.any fun x => !p x)) = xs.all p := by
  induction xs with
  | nil => rfl
  | cons a r ih => simp only [List.any_cons, List.all_cons, Bool.not_or, Bool.not_not, ih]
theorem p58 {lo hi : Int} {xs : List Int} {Q : Bool → Prop} (h : f58_wp (lo, hi, xs, ()) () Q) : V58 lo hi xs Q := by
  refine ⟨fun n => !inB lo hi n, fun x _ Q h => h, ?_⟩
  have h : Q (xs.all (inB lo hi)) := h
  show Q (!(xs.any fun n => !inB lo hi n))
  rw [any_not]; exact h
theorem all_one (p : Int → Bool) (x : Int) : [x].all p = p x := by simp
theorem all_two (p : Int → Bool) (x y : Int) : [x, y].all p = (p x && p y) := by simp
theorem cnd_and {a b : Bool} {Q : Bool → Prop} (h : Q (a && b)) : cnd a (Q b) (Q false) := by cases a <;> exact h
theorem p61 {l : Lot} {Q : Bool → Prop} (h : f61_wp l () Q) : V61 l Q := by
  show cnd ([l.1].all (inB 1 200)) (Q ([l.2].all (inB 0 200))) (Q false)
  rw [all_one, all_one]; exact cnd_and h
theorem p60 {l : Lot} {Q : Bool → Prop} (h : f60_wp l () Q) : V60 l Q := h
theorem p64 {s : Spring} {Q : Bool → Prop} (h : f64_wp s () Q) : V64 s Q := by
  show cnd ([s.1.1, s.1.2].all (inB 2 40)) (cnd (decide (s.1.1 ≤ s.1.2)) (cnd ([s.2.1].all (inB 0 4)) (Q ([s.2.2].all (inB 1 200))) (Q false)) (Q false)) (Q false)
  rw [all_two, all_one, all_one]
  have h : Q (inB 2 40 s.1.1 && inB 2 40 s.1.2 && decide (s.1.1 ≤ s.1.2) && inB 0 4 s.2.1 && inB 1 200 s.2.2) := h
  revert h
  generalize inB 2 40 s.1.1 = a
  generalize inB 2 40 s.1.2 = b
  generalize decide (s.1.1 ≤ s.1.2) = c
  generalize inB 0 4 s.2.1 = d
  generalize inB 1 200 s.2.2 = e
  intro h
  cases a <;> cases b <;> cases c <;> cases d <;> exact h
theorem p63 {s : Spring} {Q : Bool → Prop} (h : f63_wp s () Q) : V63 s Q := h
theorem p20 {s : Store} {f : List Spring} {Q : Int → Prop} (h : f20_wp (s, f, ()) () Q) : V20 s f Q := by
  have h : Q (checkF s f) := h
  unfold checkF at h
  intro _
  refine cnd_iff.2 ⟨fun h1 => ?_, fun h1 _ => cnd_iff.2 ⟨fun h2 => ?_, fun h2 => ?_⟩⟩
  · have h1 : (s.1.length : Int) > 6 := of_decide_eq_true h1
    rw [if_pos (.inl (by omega))] at h; exact h
  · have h2 : (s.2.2.length : Int) > 5 := of_decide_eq_true h2
    rw [if_pos (.inr (by omega))] at h; exact h
  have h1 : ¬ (s.1.length : Int) > 6 := of_decide_eq_false h1
  have h2 : ¬ (s.2.2.length : Int) > 5 := of_decide_eq_false h2
  rw [if_neg (by omega)] at h
  show cnd (!(s.1.all (inB 1 200))) (Q 2) (cnd (!([s.2.1].all (inB 0 10))) (Q 2) _)
  rw [all_one]
  refine cnd_iff.2 ⟨fun h3 => ?_, fun h3 => cnd_iff.2 ⟨fun h4 => ?_, fun h4 => ?_⟩⟩
  · rw [if_pos (.inl (by simpa using h3))] at h; exact h
  · rw [if_pos (.inr (.inl (by simpa using h4)))] at h; exact h
  have h3 : s.1.all (inB 1 200) = true := by cases hh : s.1.all (inB 1 200) with | true => rfl | false => rw [hh] at h3; cases h3
  have h4 : inB 0 10 s.2.1 = true := by cases hh : inB 0 10 s.2.1 with | true => rfl | false => rw [hh] at h4; cases h4
  refine ⟨fun l => !isLotF l, fun x _ Q h => h, cnd_iff.2 ⟨fun h5 => ?_, fun h5 _ => ?_⟩⟩
  · have h5 : (s.2.2.any fun l => !isLotF l) = true := h5
    rw [if_pos (.inr (.inr (by rw [← any_not, h5]; rfl)))] at h; exact h
  have h5 : (s.2.2.any fun l => !isLotF l) = false := h5
  have h5 : s.2.2.all isLotF = true := by rw [← any_not, h5]; rfl
  rw [if_neg (by rw [h3, h4, h5]; simp)] at h
  show cnd (!([(f.length : Int)].all (inB 1 4))) (Q 4) _
  rw [all_one]
  refine cnd_iff.2 ⟨fun h6 => ?_, fun h6 => ⟨fun l => !isSprF l, fun x _ Q h => h, cnd_iff.2 ⟨fun h7 => ?_, fun h7 => ?_⟩⟩⟩
  · rw [if_pos (by simpa using h6)] at h; exact h
  · have h6 : inB 1 4 (f.length : Int) = true := by simpa using h6
    rw [if_neg (by rw [h6]; simp)] at h
    have h7 : (f.any fun l => !isSprF l) = true := h7
    rw [if_pos (by rw [← any_not, h7]; rfl)] at h; exact h
  · have h6 : inB 1 4 (f.length : Int) = true := by simpa using h6
    rw [if_neg (by rw [h6]; simp)] at h
    have h7 : (f.any fun l => !isSprF l) = false := h7
    rw [if_neg (by rw [← any_not, h7]; simp)] at h; exact h
theorem p78 {n : Int} {Q : Bool → Prop} (h : f78_wp n () Q) : V78 n Q := by
  show Q ([n].all (inB 1 200))
  rw [all_one]; exact h
theorem p79 {xs : List Int} {Q : List Int → Prop} (h : f79_wp xs () Q) : V79 xs Q := by
  obtain ⟨hl, h⟩ := h
  intro b hb
  refine cnd_iff.2 ⟨fun h1 => ?_, fun h1 => ⟨?_, h⟩⟩
  · rw [hb h1] at h; exact h
  · simp only [List.length_nil, Nat.zero_add]; omega
theorem p106 {n : Int} {Q : Bool → Prop} (h : f106_wp n () Q) : V106 n Q := by
  show Q (n != n)
  rw [show (n != n) = false by simp]; exact h
theorem p100 {a b : Int} {Q : Bool → Prop} (h : f100_wp (a, b, ()) () Q) : V100 a b Q := h
theorem p103 {a b : Int} {Q : Int → Prop} (h : f103_wp (a, b, ()) () Q) : V103 a b Q := by
  have h : Q (cmpI3 a b) := h
  unfold cmpI3 at h
  show cnd (decide (a < b)) (Q (-1)) (cnd (decide (a > b)) (Q 1) (Q 0))
  refine cnd_iff.2 ⟨fun h1 => ?_, fun h1 => cnd_iff.2 ⟨fun h2 => ?_, fun h2 => ?_⟩⟩
  · rw [if_pos (of_decide_eq_true h1)] at h; exact h
  · rw [if_neg (of_decide_eq_false h1), if_pos (of_decide_eq_true h2)] at h; exact h
  · rw [if_neg (of_decide_eq_false h1), if_neg (of_decide_eq_false h2)] at h; exact h
theorem cmpL_drop (a b : List Int) : ∀ k, (∀ j, j < k → j < a.length ∧ j < b.length ∧ cmpI3 (a.getD j 0) (b.getD j 0) = 0) → cmpL a b = cmpL (a.drop k) (b.drop k)
  | 0, _ => by simp
  | k + 1, h => by
    rw [cmpL_drop a b k fun j hj => h j (by omega)]
    obtain ⟨h1, h2, h3⟩ := h k (by omega)
    rw [List.drop_eq_getElem_cons h1, List.drop_eq_getElem_cons h2]
    rw [getD_lt h1, getD_lt h2] at h3
    simp only [cmpL, h3, ne_eq, not_true_eq_false, if_false]
theorem p89 {a b : List Int} {Q : Int → Prop} (h : f89_wp (a, b, ()) () Q) : V89 a b Q := by
  have h : Q (cmpL a b) := h
  intro hl
  refine forUpG hl (fun k => ∀ j, j < k → j < a.length ∧ j < b.length ∧ cmpI3 (a.getD j 0) (b.getD j 0) = 0) (fun j hj => absurd hj (Nat.not_lt_zero _)) (fun k hk hg I μ hI hw => ?_) (fun hg => ?_)
  · refine ⟨by omega, by omega, fun hl2 => cnd_iff.2 ⟨fun h1 => ?_, fun h1 => ⟨by omega, ?_, ?_⟩⟩⟩
    · have h1 : (k : Int) ≥ b.length := of_decide_eq_true h1
      have e := cmpL_drop a b k hg
      have eb : b.drop k = [] := List.drop_eq_nil_of_le (by omega)
      rw [List.drop_eq_getElem_cons hk, eb] at e
      rw [e] at h; exact h
    · have h1 : ¬ (k : Int) ≥ b.length := of_decide_eq_false h1; omega
    · have h1 : ¬ (k : Int) ≥ b.length := of_decide_eq_false h1
      have hkb : k < b.length := by omega
      rw [hw]
      show cnd (cmpI3 (a.getD k 0) (b.getD k 0) != 0) (Q (cmpI3 (a.getD k 0) (b.getD k 0))) _
      refine cnd_iff.2 ⟨fun h2 => ?_, fun h2 => hI fun j hj => ?_⟩
      · have h2 : cmpI3 (a.getD k 0) (b.getD k 0) ≠ 0 := by simpa using h2
        have e := cmpL_drop a b k hg
        rw [List.drop_eq_getElem_cons hk, List.drop_eq_getElem_cons hkb] at e
        rw [getD_lt hk, getD_lt hkb] at h2 ⊢
        rw [cmpL, if_pos h2] at e
        rw [e] at h; exact h
      · rcases Nat.lt_succ_iff_lt_or_eq.1 hj with h3 | rfl
        · exact hg j h3
        · exact ⟨hk, hkb, by simpa using h2⟩
  · intro _ hl2
    have e := cmpL_drop a b a.length hg
    rw [List.drop_length] at e
    refine cnd_iff.2 ⟨fun h1 => ?_, fun h1 => ?_⟩
    · have h1 : (a.length : Int) < b.length := of_decide_eq_true h1
      have eb : b.drop a.length = b[a.length]'(by omega) :: b.drop (a.length + 1) := List.drop_eq_getElem_cons (by omega)
      rw [eb] at e
      rw [e] at h; exact h
    · have h1 : ¬ (a.length : Int) < b.length := of_decide_eq_false h1
      have eb : b.drop a.length = [] := List.drop_eq_nil_of_le (by omega)
      rw [eb] at e
      rw [e] at h; exact h
theorem sortedB_iff (xs : List Int) : sortedB xs = true ↔ ∀ j, j + 1 < xs.length → xs.getD j 0 ≤ xs.getD (j + 1) 0 := by
  induction xs with
  | nil => simp [sortedB]
  | cons a r ih =>
    cases r with
    | nil => simp [sortedB]
    | cons b s =>
      simp only [sortedB, Bool.and_eq_true, decide_eq_true_eq] at ih ⊢
      rw [ih]
      constructor
      · rintro ⟨h1, h2⟩ j hj
        cases j with
        | zero => exact h1
        | succ j => exact h2 j (by simpa using hj)
      · intro h
        exact ⟨h 0 (by simp), fun j hj => h (j + 1) (by simpa using hj)⟩
theorem p84 {xs : List Int} {Q : Bool → Prop} (h : f84_wp xs () Q) : V84 xs Q := by
  have h : Q (sortedB xs) := h
  intro hl
  refine ⟨fun x => -1 ≤ x ∧ x ≤ (xs.length : Int) - 1 ∧ ∀ j : Nat, x ≤ j → j + 1 < xs.length → xs.getD j 0 ≤ xs.getD (j + 1) 0, fun x => (x + 1).toNat, ?_, ?_⟩
  · rw [wrapS (by omega) (by omega)]
    exact ⟨by omega, by omega, fun j h1 h2 => absurd h2 (by have h1 : (xs.length : Int) - 1 ≤ j := h1; omega)⟩
  · rintro x ⟨h1, h2, h3⟩
    refine cnd_iff.2 ⟨fun h4 => ?_, fun h4 => ?_⟩
    · have h4 : x > 0 := of_decide_eq_true h4
      obtain ⟨k, rfl⟩ := Int.eq_ofNat_of_zero_le (by omega : 0 ≤ x)
      rw [wrapS (by omega) (by omega)]
      have e1 : ((k : Int) - 1).toNat = k - 1 := by omega
      refine ⟨by omega, by omega, by omega, by omega, _, rfl, ?_⟩
      show cnd (decide (xs.getD k 0 < xs.getD ((k : Int) - 1).toNat 0)) _ _
      rw [e1]
      refine cnd_iff.2 ⟨fun h5 => ?_, fun h5 => ⟨⟨by omega, by omega, fun j g1 g2 => ?_⟩, by show ((k : Int) - 1 + 1).toNat < ((k : Int) + 1).toNat; omega⟩⟩
      · have h5 : xs.getD k 0 < xs.getD (k - 1) 0 := of_decide_eq_true h5
        have : sortedB xs = false := by
          cases hs : sortedB xs with
          | false => rfl
          | true =>
            have := (sortedB_iff xs).1 hs (k - 1) (by omega)
            rw [show k - 1 + 1 = k by omega] at this
            omega
        rwa [this] at h
      · have h5 : ¬ xs.getD k 0 < xs.getD (k - 1) 0 := of_decide_eq_false h5
        by_cases hj : j = k - 1
        · subst hj
          rw [show k - 1 + 1 = k by omega]
          omega
        · exact h3 j (by omega) g2
    · have h4 : ¬ x > 0 := of_decide_eq_false h4
      have : sortedB xs = true := (sortedB_iff xs).2 fun j hj => h3 j (by omega) hj
      rwa [this] at h
theorem and32 {a : Int} (h1 : 0 ≤ a) (h2 : a ≤ 4294967295) : (((BitVec.ofInt (IntKind.bits IntKind.u64) a &&& BitVec.ofInt (IntKind.bits IntKind.u64) (4294967295 : Int)).toNat : Nat) : Int) = a := by
  obtain ⟨k, rfl⟩ := Int.eq_ofNat_of_zero_le h1
  rw [BitVec.toNat_and]
  have e1 : (BitVec.ofInt (IntKind.bits IntKind.u64) (k : Int)).toNat = k := by
    rw [BitVec.ofInt_natCast, BitVec.toNat_ofNat]
    exact Nat.mod_eq_of_lt (by show k < 2 ^ 64; omega)
  have e2 : (BitVec.ofInt (IntKind.bits IntKind.u64) (4294967295 : Int)).toNat = 2 ^ 32 - 1 := by decide
  rw [e1, e2, Nat.and_two_pow_sub_one_eq_mod, Nat.mod_eq_of_lt (by omega)]
theorem wrapU {x : Int} (h1 : 0 ≤ x) (h2 : x ≤ 18446744073709551615) : IntKind.wrap .u64 x = x := by
  have hb : (2 : Int) ^ IntKind.u64.bits = 18446744073709551616 := rfl
  have hs : IntKind.u64.signed = false := rfl
  unfold IntKind.wrap
  simp only [hb, hs, Bool.false_and, Bool.false_eq_true, if_false]
  omega
theorem fdiv32 {a : Int} (h1 : 0 ≤ a) (h2 : a ≤ 4294967295) : Int.fdiv a ((2 : Int) ^ min (Int.toNat (32 : Int)) (IntKind.bits IntKind.u64)) = 0 := by
  have e : (2 : Int) ^ min (Int.toNat (32 : Int)) (IntKind.bits IntKind.u64) = 4294967296 := by decide
  rw [e, Int.fdiv_eq_ediv_of_nonneg _ (by omega)]
  omega
theorem p110 {a b : Int} {Q : Int × Int × Unit → Prop} (h : f110_wp (a, b, ()) () Q) : V110 a b Q := by
  obtain ⟨⟨h1, h2, h3, h4⟩, h⟩ := h
  have h1 : 0 ≤ a := h1
  have h2 : a ≤ 1000 := h2
  have h3 : 0 ≤ b := h3
  have h4 : b ≤ 1000 := h4
  have h : Q (0, a * b, ()) := h
  have hab : 0 ≤ a * b := Int.mul_nonneg h1 h3
  have hab2 : a * b ≤ 1000 * 1000 := Int.mul_le_mul h2 h4 h3 (by omega)
  refine ⟨by decide, by decide, by decide, by decide, by decide, ?_⟩
  have w0 : IntKind.wrap .u64 0 = 0 := wrapU (by omega) (by omega)
  have fd : Int.fdiv (a * b) ((2 : Int) ^ min (Int.toNat (32 : Int)) (IntKind.bits IntKind.u64)) = 0 := fdiv32 hab (by omega)
  have fd0 : Int.fdiv 0 ((2 : Int) ^ min (Int.toNat (32 : Int)) (IntKind.bits IntKind.u64)) = 0 := fdiv32 (by omega) (by omega)
  have an0 : (((BitVec.ofInt (IntKind.bits IntKind.u64) 0 &&& BitVec.ofInt (IntKind.bits IntKind.u64) (4294967295 : Int)).toNat : Nat) : Int) = 0 := and32 (by omega) (by omega)
  simp only [and32 h1 (by omega), and32 h3 (by omega), fdiv32 h1 (by omega), fdiv32 h3 (by omega), wrapU h1 (by omega), wrapU h3 (by omega), wrapU hab (by omega), fd, Int.zero_mul, Int.mul_zero, Int.add_zero, Int.zero_add, w0, fd0, an0]
  exact h
theorem p108 {a b : Int} {Q : Int × Int × Unit → Prop} (h : f108_wp (a, b, ()) () Q) : V108 a b Q := h
theorem rep_step (c : Int) (N k m : Nat) (hk : k ≤ N) (hm : m = min (N - k) k) : (List.replicate k c ++ List.replicate (N - k) 0).take k ++ ((List.replicate k c ++ List.replicate (N - k) 0).take k).take m ++ (List.replicate k c ++ List.replicate (N - k) 0).drop (k + m) = List.replicate (k + m) c ++ List.replicate (N - (k + m)) 0 := by
  have h1 : (List.replicate k c ++ List.replicate (N - k) 0).take k = List.replicate k c := by
    rw [List.take_append_of_le_length (by simp)]; simp
  have h2 : (List.replicate k c).take m = List.replicate m c := by simp; omega
  have h3 : (List.replicate k c ++ List.replicate (N - k) 0).drop (k + m) = List.replicate (N - (k + m)) 0 := by
    rw [List.drop_append, List.length_replicate]
    simp; omega
  rw [h1, h2, h3, List.replicate_append_replicate]
theorem p107 {xs : List Int} {n : Int} {Q : List Int → Prop} (h : f107_wp (xs, n, ()) () Q) : V107 xs n Q := by
  obtain ⟨⟨h1, h2, h3⟩, h⟩ := h
  have h1 : xs.length = 1 := h1
  have h2 : 0 ≤ n := h2
  have h3 : n ≤ 1000 := h3
  have h : Q (List.replicate n.toNat (xs.getD 0 0)) := h
  obtain ⟨c, rfl⟩ : ∃ c, xs = [c] := by
    match xs, h1 with
    | [c], _ => exact ⟨c, rfl⟩
  obtain ⟨N, rfl⟩ := Int.eq_ofNat_of_zero_le h2
  have hN : N ≤ 1000 := by omega
  rw [Int.toNat_natCast] at h
  have h : Q (List.replicate N c) := h
  have hw : IntKind.wrap .u64 (N : Int) = N := wrapU (by omega) (by omega)
  have hw1 : IntKind.wrap .u64 (([c].length : Nat) : Int) = 1 := wrapU (by simp) (by simp)
  refine cnd_iff.2 ⟨fun hc => ?_, fun _ _ => ?_⟩
  · have := of_decide_eq_true hc; omega
  refine ⟨⟨by simp only [hw1]; omega, by simp only [hw1]; omega, by simp only [hw]; omega, by simp only [hw]; omega⟩, ?_⟩
  simp only [hw, hw1, Int.one_mul]
  refine cnd_iff.2 ⟨fun hc => ?_, fun _ => cnd_iff.2 ⟨fun hc => ?_, fun _ => ?_⟩⟩
  · have := of_decide_eq_true hc; omega
  · have := of_decide_eq_true hc; omega
  have hw2 : IntKind.wrap .i64 (N : Int) = N := wrapS (by omega) (by omega)
  simp only [hw2, Int.toNat_natCast]
  refine ⟨trivial, by omega, by omega, ?_⟩
  refine ⟨fun x l => ∃ k : Nat, k ≤ N ∧ (N ≠ 0 → 1 ≤ k) ∧ x = k ∧ l = List.replicate k c ++ List.replicate (N - k) 0, fun x _ => (N - x).toNat, ?_, ?_⟩
  · refine ⟨min N 1, by omega, by omega, ?_, ?_⟩
    · simp
    · cases N with
      | zero => rfl
      | succ N => simp [List.replicate_succ]
  · rintro x l ⟨k, hk, hk1, rfl, rfl⟩ _
    have hl : (List.replicate k c ++ List.replicate (N - k) 0).length = N := by simp; omega
    refine cnd_iff.2 ⟨fun hc => ?_, fun hc => ?_⟩
    · have hc : (k : Int) < _ := of_decide_eq_true hc
      rw [hl] at hc
      have hkN : k < N := by omega
      have hk0 : 1 ≤ k := hk1 (by omega)
      simp only [Int.toNat_natCast, Int.toNat_zero, List.drop_zero, hl]
      have ht : ((List.replicate k c ++ List.replicate (N - k) 0).take k).length = k := by rw [List.length_take, hl]; omega
      rw [ht]
      obtain ⟨m, hm⟩ : ∃ m, m = min (N - k) k := ⟨_, rfl⟩
      rw [← hm, rep_step c N k m hk hm]
      have hwk : IntKind.wrap .i64 ((k : Int) + (m : Nat)) = ((k + m : Nat) : Int) := by rw [wrapS (by omega) (by omega)]; push_cast; rfl
      rw [hwk]
      refine ⟨by omega, by omega, Int.le_refl _, Int.le_refl _, by omega, by omega, ⟨k + m, by omega, by omega, rfl, rfl⟩, by omega⟩
    · have hc : ¬ (k : Int) < _ := of_decide_eq_false hc
      rw [hl] at hc
      have : k = N := by omega
      subst this
      simpa using h
end Go.Proofs.Fa
set_option linter.unusedVariables false
namespace Go.Proofs.Fa
open Go Go.GX Go.Proofs

theorem for4 {σ : Type} (F : Nat → σ) {s0 : σ} (h0 : s0 = F 0) {body : (Int → σ → Prop) → (Int → σ → Nat) → Int → σ → Prop}
    (hb : ∀ k : Nat, k < 4 → ∀ (I : Int → σ → Prop) (μ : Int → σ → Nat), (I (k + 1 : Int) (F (k + 1)) ∧ μ (k + 1 : Int) (F (k + 1)) < μ k (F k)) → IntKind.wrap .i64 ((k : Int) + 1) = k + 1 → body I μ k (F k))
    {e : Int → σ → Prop} (he : e 4 (F 4)) :
    ∃ (I : Int → σ → Prop) (μ : Int → σ → Nat), I 0 s0 ∧ ∀ x s, I x s → cnd (decide (x < 4)) (body I μ x s) (e x s) :=
  forUp (n := 4) (by omega) F h0 hb he
def set4 (t : FansT) (j : Nat) (u : Int) : FansT :=
  (List.getD (List.set [t.1, t.2.1, t.2.2.1, t.2.2.2] j u) 0 u, List.getD (List.set [t.1, t.2.1, t.2.2.1, t.2.2.2] j u) 1 u, List.getD (List.set [t.1, t.2.1, t.2.2.1, t.2.2.2] j u) 2 u, List.getD (List.set [t.1, t.2.1, t.2.2.1, t.2.2.2] j u) 3 u)
def at4L (t : FansT) (j : Nat) : Int := List.getD [t.1, t.2.1, t.2.2.1, t.2.2.2] j t.1
theorem at4_L (t : FansT) : ∀ {k : Nat}, k < 4 → at4L t k = at4 t k
  | 0, _ => rfl
  | 1, _ => rfl
  | 2, _ => rfl
  | 3, _ => rfl
  | k + 4, h => absurd h (by omega)
theorem set4_tup (g : Nat → Int) : ∀ {k : Nat}, k < 4 → set4 (tup4 fun i => if i < k then g i else 0) k (g k) = tup4 fun i => if i < k + 1 then g i else 0
  | 0, _ => rfl
  | 1, _ => rfl
  | 2, _ => rfl
  | 3, _ => rfl
  | k + 4, h => absurd h (by omega)
theorem set4_set4 (t : FansT) (u v : Int) : ∀ {k : Nat}, k < 4 → set4 (set4 t k u) k v = set4 t k v
  | 0, _ => rfl
  | 1, _ => rfl
  | 2, _ => rfl
  | 3, _ => rfl
  | k + 4, h => absurd h (by omega)
theorem all4_at {p : Int → Prop} {t : FansT} (h : all4 p t) : ∀ {k : Nat}, k < 4 → p (at4 t k)
  | 0, _ => h.1
  | 1, _ => h.2.1
  | 2, _ => h.2.2.1
  | 3, _ => h.2.2.2
  | k + 4, h => absurd h (by omega)
theorem bnd_mul {A B x y : Int} (hA : 0 ≤ A) (hx : bnd A x) (hy : bnd B y) : bnd (A * B) (x * y) := by
  obtain ⟨h1, h2⟩ := hx
  obtain ⟨h3, h4⟩ := hy
  have e1 : 0 ≤ (A - x) * (B - y) := Int.mul_nonneg (by omega) (by omega)
  have e2 : 0 ≤ (A + x) * (B + y) := Int.mul_nonneg (by omega) (by omega)
  have e3 : 0 ≤ (A - x) * (B + y) := Int.mul_nonneg (by omega) (by omega)
  have e4 : 0 ≤ (A + x) * (B - y) := Int.mul_nonneg (by omega) (by omega)
  simp only [Int.sub_mul, Int.mul_sub, Int.add_mul, Int.mul_add] at e1 e2 e3 e4
  constructor <;> omega
theorem FOK.b {f : FansT} (h : FOK f) {k : Nat} (hk : k < 4) : bnd 1000 (at4 f k) := by
  have : 0 ≤ at4 f k ∧ at4 f k ≤ 1000 := all4_at h hk
  constructor <;> omega

theorem p80 {f : FansT} {Q : Int → Prop} (h : f80_wp f () Q) : V80 f Q := by
  obtain ⟨⟨⟨a1, a2⟩, ⟨b1, b2⟩, ⟨c1, c2⟩, ⟨d1, d2⟩⟩, h⟩ := h
  refine for4 (σ := Int) (fun k => match k with | 0 => 0 | 1 => f.1 | 2 => f.1 + f.2.1 | 3 => f.1 + f.2.1 + f.2.2.1 | _ => sumF f) rfl (fun k hk I μ hI hw => ?_) h
  refine ⟨by omega, by omega, ?_⟩
  rw [hw]
  match k, hk with
  | 0, _ =>
    have e : IntKind.wrap .i64 (0 + f.1) = f.1 := by rw [wrapS (by omega) (by omega)]; omega
    show I 1 (IntKind.wrap .i64 (0 + f.1)) ∧ μ 1 (IntKind.wrap .i64 (0 + f.1)) < μ 0 0
    rw [e]; exact hI
  | 1, _ =>
    have e : IntKind.wrap .i64 (f.1 + f.2.1) = f.1 + f.2.1 := wrapS (by omega) (by omega)
    show I 2 (IntKind.wrap .i64 (f.1 + f.2.1)) ∧ μ 2 (IntKind.wrap .i64 (f.1 + f.2.1)) < μ 1 f.1
    rw [e]; exact hI
  | 2, _ =>
    have e : IntKind.wrap .i64 (f.1 + f.2.1 + f.2.2.1) = f.1 + f.2.1 + f.2.2.1 := wrapS (by omega) (by omega)
    show I 3 (IntKind.wrap .i64 (f.1 + f.2.1 + f.2.2.1)) ∧ μ 3 (IntKind.wrap .i64 (f.1 + f.2.1 + f.2.2.1)) < μ 2 (f.1 + f.2.1)
    rw [e]; exact hI
  | 3, _ =>
    have e : IntKind.wrap .i64 (f.1 + f.2.1 + f.2.2.1 + f.2.2.2) = f.1 + f.2.1 + f.2.2.1 + f.2.2.2 := wrapS (by omega) (by omega)
    show I 4 (IntKind.wrap .i64 (f.1 + f.2.1 + f.2.2.1 + f.2.2.2)) ∧ μ 4 (IntKind.wrap .i64 (f.1 + f.2.1 + f.2.2.1 + f.2.2.2)) < μ 3 (f.1 + f.2.1 + f.2.2.1)
    rw [e]; exact hI
theorem p105 {f : FansT} {Q : List Int → Prop} (h : f105_wp f () Q) : V105 f Q := by
  obtain ⟨⟨⟨a1, a2⟩, ⟨b1, b2⟩, ⟨c1, c2⟩, ⟨d1, d2⟩⟩, h⟩ := h
  refine for4 (σ := List Int) (fun k => match k with | 0 => [] | 1 => List.replicate f.1.toNat 0 | 2 => List.replicate f.1.toNat 0 ++ List.replicate f.2.1.toNat 1 | 3 => List.replicate f.1.toNat 0 ++ List.replicate f.2.1.toNat 1 ++ List.replicate f.2.2.1.toNat 2 | _ => listF f) rfl (fun k hk I μ hI hw => ?_) h
  refine ⟨by omega, by omega, ?_⟩
  rw [hw]
  match k, hk with
  | 0, _ => exact ⟨⟨rfl, a1, a2⟩, by show (0 + (List.replicate f.1.toNat _).length) * 8 ≤ _; simp only [List.length_replicate]; omega, hI⟩
  | 1, _ => exact ⟨⟨rfl, b1, b2⟩, by show ((List.replicate f.1.toNat _).length + (List.replicate f.2.1.toNat _).length) * 8 ≤ _; simp only [List.length_replicate]; omega, hI⟩
  | 2, _ => exact ⟨⟨rfl, c1, c2⟩, by show ((List.replicate f.1.toNat _ ++ List.replicate f.2.1.toNat _).length + (List.replicate f.2.2.1.toNat _).length) * 8 ≤ _; simp only [List.length_append, List.length_replicate]; omega, hI⟩
  | 3, _ => exact ⟨⟨rfl, d1, d2⟩, by show ((List.replicate f.1.toNat _ ++ List.replicate f.2.1.toNat _ ++ List.replicate f.2.2.1.toNat _).length + (List.replicate f.2.2.2.toNat _).length) * 8 ≤ _; simp only [List.length_append, List.length_replicate]; omega, hI⟩

def dotS (f a : FansT) : Nat → Int
  | 0 => 0
  | k + 1 => dotS f a k + at4 f k * at4 a k
theorem dotS_bnd {f a : FansT} (hf : FOK f) (ha : all4 (bnd 1000000) a) : ∀ {k : Nat}, k ≤ 4 → bnd ((k : Int) * 1000000000) (dotS f a k)
  | 0, _ => ⟨by simp [dotS], by simp [dotS]⟩
  | k + 1, h => by
    have h1 := dotS_bnd hf ha (k := k) (by omega)
    have h2 := bnd_mul (by omega) (hf.b (k := k) (by omega)) (all4_at ha (k := k) (by omega))
    obtain ⟨u1, u2⟩ := h1
    obtain ⟨v1, v2⟩ := h2
    simp only [dotS]
    push_cast
    constructor <;> omega
theorem dotS_four (f a : FansT) : dotS f a 4 = GX.Fa.dot f a := by
  show 0 + f.1 * a.1 + f.2.1 * a.2.1 + f.2.2.1 * a.2.2.1 + f.2.2.2 * a.2.2.2 = _
  rw [Int.zero_add]; rfl
theorem dotS_step {f a : FansT} (hf : FOK f) (ha : all4 (bnd 1000000) a) {k : Nat} (hk : k < 4) : IntKind.wrap .i64 (dotS f a k + IntKind.wrap .i64 (at4L f k * at4L a k)) = dotS f a (k + 1) := by
  rw [at4_L _ hk, at4_L _ hk]
  have h1 := dotS_bnd hf ha (k := k) (by omega)
  have h2 := bnd_mul (by omega) (hf.b (k := k) (by omega)) (all4_at ha (k := k) (by omega))
  have h3 := dotS_bnd hf ha (k := k + 1) (by omega)
  obtain ⟨v1, v2⟩ := h2
  obtain ⟨w1, w2⟩ := h3
  push_cast at w1 w2
  rw [wrapS (x := at4 f k * at4 a k) (by omega) (by omega)]
  exact wrapS (x := dotS f a (k + 1)) (by omega) (by omega)
theorem dot_bnd {f a : FansT} (hf : FOK f) (ha : all4 (bnd 1000000) a) : bnd 4000000000 (GX.Fa.dot f a) := by
  have := dotS_bnd hf ha (k := 4) (by omega)
  rw [dotS_four] at this
  exact ⟨by have := this.1; omega, by have := this.2; omega⟩
theorem p97 {b : BinT} {f : FansT} {Q : Bool → Prop} (h : f97_wp (b, f, ()) () Q) : V97 b f Q := by
  obtain ⟨⟨hb, hf⟩, h⟩ := h
  have hb : BOK b := hb
  have hf : FOK f := hf
  refine for4 (σ := Int) (dotS f b.1) rfl (fun k hk I μ hI hw => ?_) ?_
  · refine ⟨by omega, by omega, by omega, by omega, ?_⟩
    rw [hw]
    show I _ (IntKind.wrap .i64 (dotS f b.1 k + IntKind.wrap .i64 (at4L f k * at4L b.1 k))) ∧ μ _ (IntKind.wrap .i64 (dotS f b.1 k + IntKind.wrap .i64 (at4L f k * at4L b.1 k))) < _
    rw [dotS_step hf hb.t hk]
    exact hI
  · show Q (decide (dotS f b.1 4 ≤ b.2.2.1))
    rw [dotS_four]; exact h
theorem p98 {b : BinT} {f : FansT} {Q : Int → Prop} (h : f98_wp (b, f, ()) () Q) : V98 b f Q := by
  obtain ⟨⟨hb, hf⟩, h⟩ := h
  have hb : BOK b := hb
  have hf : FOK f := hf
  have h : Q (GX.Fa.dot f b.2.1 + (if GX.Fa.isNo f then 0 else b.2.2.2)) := h
  have hd := dot_bnd hf hb.l
  refine for4 (σ := Int) (dotS f b.2.1) rfl (fun k hk I μ hI hw => ?_) ?_
  · refine ⟨by omega, by omega, by omega, by omega, ?_⟩
    rw [hw]
    show I _ (IntKind.wrap .i64 (dotS f b.2.1 k + IntKind.wrap .i64 (at4L f k * at4L b.2.1 k))) ∧ μ _ (IntKind.wrap .i64 (dotS f b.2.1 k + IntKind.wrap .i64 (at4L f k * at4L b.2.1 k))) < _
    rw [dotS_step hf hb.l hk]
    exact hI
  · simp only [dotS_four]
    refine cnd_iff.2 ⟨fun h1 => ?_, fun h1 => ?_⟩
    · have e : GX.Fa.isNo f = false := by
        have : (!(GX.Fa.isNo f && true)) = true := by simpa [GX.Fa.isNo, Bool.and_assoc] using h1
        simpa using this
      rw [e] at h
      have hh := hb.f
      rw [wrapS (by have := hd.1; have := hh.1; omega) (by have := hd.2; have := hh.2; omega)]
      exact h
    · have e : GX.Fa.isNo f = true := by
        have : (!(GX.Fa.isNo f && true)) = false := by simpa [GX.Fa.isNo, Bool.and_assoc] using h1
        simpa using this
      rw [e] at h
      simpa using h
theorem p99 {a b : FansT} {Q : FansT → Prop} (h : f99_wp (a, b, ()) () Q) : V99 a b Q := by
  obtain ⟨⟨ha, hb⟩, h⟩ := h
  have ha : all4 (bnd 1000000) a := ha
  have hb : all4 (bnd 1000000) b := hb
  have hx : ∀ k, k < 4 → IntKind.wrap .i64 (at4 a k - at4 b k) = at4 a k - at4 b k := fun k hk => by
    have h1 := all4_at ha hk
    have h2 := all4_at hb hk
    exact wrapS (by have := h1.1; have := h2.2; omega) (by have := h1.2; have := h2.1; omega)
  refine for4 (σ := FansT) (fun k => tup4 fun i => if i < k then at4 a i - at4 b i else at4 a i) rfl (fun k hk I μ hI hw => ?_) h
  refine ⟨by omega, by omega, by omega, by omega, by omega, by omega, ?_⟩
  rw [hw]
  have e : set4 (tup4 fun i => if i < k then at4 a i - at4 b i else at4 a i) k (IntKind.wrap .i64 (at4L (tup4 fun i => if i < k then at4 a i - at4 b i else at4 a i) k - at4L b k)) = tup4 fun i => if i < k + 1 then at4 a i - at4 b i else at4 a i := by
    rw [at4_L _ hk, at4_L _ hk]
    have e1 : at4 (tup4 fun i => if i < k then at4 a i - at4 b i else at4 a i) k = at4 a k := by
      match k, hk with
      | 0, _ => rfl
      | 1, _ => rfl
      | 2, _ => rfl
      | 3, _ => rfl
    rw [e1, hx k hk]
    match k, hk with
    | 0, _ => rfl
    | 1, _ => rfl
    | 2, _ => rfl
    | 3, _ => rfl
  show I _ (set4 _ k (IntKind.wrap .i64 (at4L _ k - at4L b k))) ∧ μ _ (set4 _ k (IntKind.wrap .i64 (at4L _ k - at4L b k))) < _
  rw [e]
  exact hI
theorem p66 {s : Int × Int} {Q : Int → Prop} (h : f66_wp s () Q) : V66 s Q := h
theorem p65 {s : Store} {f : List Spring} {e : Int × Int → (Int → Prop) → Prop} {Q : Fashion → Prop} (h : f65_wp (s, f, e, ()) () Q) : V65 s f e Q := by
  obtain ⟨g, ⟨hn, hs⟩, h⟩ := h
  have hn : f.length ≤ 4 := hn
  have hs : Says e g (f.map (·.1)) := hs
  intro hl
  refine forUp (σ := Fashion) (n := f.length) hl (fun k => (s, f, tup4 fun i => if i < k then g (f.getD i ((0, 0), 0, 0)).1 else 0)) rfl (fun k hk I μ hI hw => ?_) h
  refine ⟨by omega, by omega, ?_⟩
  refine hs (f.getD k ((0, 0), 0, 0)).1 (List.mem_map.2 ⟨_, getD_mem hk, rfl⟩) _ ⟨by omega, by omega, ?_⟩
  rw [hw]
  show I _ (s, f, set4 (tup4 fun i => if i < k then g (f.getD i ((0, 0), 0, 0)).1 else 0) k (g (f.getD k ((0, 0), 0, 0)).1)) ∧ μ _ (s, f, set4 (tup4 fun i => if i < k then g (f.getD i ((0, 0), 0, 0)).1 else 0) k (g (f.getD k ((0, 0), 0, 0)).1)) < _
  rw [set4_tup (fun i => g (f.getD i ((0, 0), 0, 0)).1) (by omega)]
  exact hI
theorem p69 {x : Fashion} {Q : FansT → Prop} (h : f69_wp x () Q) : V69 x Q := by
  obtain ⟨hn, h⟩ := h
  intro hl
  refine forUp (σ := FansT) (n := x.2.1.length) hl (fun k => tup4 fun i => if i < k then (x.2.1.getD i ((0, 0), 0, 0)).2.1 else 0) rfl (fun k hk I μ hI hw => ?_) h
  refine ⟨by omega, by omega, by omega, by omega, ?_⟩
  rw [hw]
  show I _ (set4 (tup4 fun i => if i < k then (x.2.1.getD i ((0, 0), 0, 0)).2.1 else 0) k (x.2.1.getD k ((0, 0), 0, 0)).2.1) ∧ μ _ (set4 (tup4 fun i => if i < k then (x.2.1.getD i ((0, 0), 0, 0)).2.1 else 0) k (x.2.1.getD k ((0, 0), 0, 0)).2.1) < _
  rw [set4_tup (fun i => (x.2.1.getD i ((0, 0), 0, 0)).2.1) (by omega)]
  exact hI
theorem take_map_succ {α β : Type} (g : α → β) (l : List α) {k : Nat} (hk : k < l.length) (d : α) : (l.take (k + 1)).map g = (l.take k).map g ++ [g (l.getD k d)] := by
  rw [List.take_add_one, List.map_append, List.getElem?_eq_getElem hk, getD_lt hk]
  rfl
theorem p68 {x : Fashion} {e i : Int} {Q : List BinT → Prop} (h : f68_wp (x, e, i, ()) () Q) : V68 x e i Q := by
  obtain ⟨hx, h⟩ := h
  have hx : XOK x := hx
  have hsm := hx.sm
  intro hl
  refine forUp (σ := BinT) (n := x.2.1.length) hl (fun k => (tup4 fun j => if j < k then at4 x.2.2 j + x.1.2.1 else 0, tup4 fun j => if j < k then e else 0, 0, i)) rfl (fun k hk I μ hI hw => ?_) ?_
  · have hk4 : k < 4 := by have := hx.n; omega
    refine ⟨by omega, by omega, by omega, by omega, by omega, by omega, ?_⟩
    rw [hw]
    have hc := all4_at hx.ct hk4
    have e1 : IntKind.wrap .i64 (at4L x.2.2 k + x.1.2.1) = at4 x.2.2 k + x.1.2.1 := by
      rw [at4_L _ hk4]
      exact wrapS (by have := hc.1; have := hsm.1; omega) (by have := hc.2; have := hsm.2; omega)
    show I _ (set4 _ k (IntKind.wrap .i64 (at4L x.2.2 k + x.1.2.1)), set4 _ k e, 0, i) ∧ μ _ (set4 _ k (IntKind.wrap .i64 (at4L x.2.2 k + x.1.2.1)), set4 _ k e, 0, i) < _
    rw [e1]
    have e2 := set4_tup (fun j => at4 x.2.2 j + x.1.2.1) hk4
    have e3 := set4_tup (fun _ => e) hk4
    simp only at e2 e3 ⊢
    rw [e2, e3]
    exact hI
  · intro hl2
    refine forUp2 (σ := BinT) (τ := List BinT) (n := x.1.1.length) hl2 (fun k => (tup4 fun j => if j < x.2.1.length then at4 x.2.2 j + x.1.2.1 else 0, tup4 fun j => if j < x.2.1.length then e else 0, if k = 0 then 0 else x.1.1.getD (k - 1) 0 + x.1.2.1, i)) (fun k => leavesF (x.1.1.take k) x.1.2.1 x.2.1.length x.2.2 e i) rfl rfl (fun k hk I μ hI hw => ?_) ?_
    · have hg := hx.lv _ (getD_mem (d := 0) hk)
      have e1 : IntKind.wrap .i64 (x.1.1.getD k 0 + x.1.2.1) = x.1.1.getD k 0 + x.1.2.1 :=
        wrapS (by have := hg.1; have := hsm.1; omega) (by have := hg.2; have := hsm.2; omega)
      refine ⟨by omega, by omega, ?_, ?_⟩
      · have := hx.nl
        simp only [leavesF, List.length_map, List.length_take, List.length_cons, List.length_nil]
        omega
      · rw [hw]
        show I _ (_, _, IntKind.wrap .i64 (x.1.1.getD k 0 + x.1.2.1), i) (leavesF (x.1.1.take k) x.1.2.1 x.2.1.length x.2.2 e i ++ [(_, _, IntKind.wrap .i64 (x.1.1.getD k 0 + x.1.2.1), i)]) ∧ μ _ (_, _, IntKind.wrap .i64 (x.1.1.getD k 0 + x.1.2.1), i) (leavesF (x.1.1.take k) x.1.2.1 x.2.1.length x.2.2 e i ++ [(_, _, IntKind.wrap .i64 (x.1.1.getD k 0 + x.1.2.1), i)]) < _
        rw [e1]
        have e2 : leavesF (x.1.1.take (k + 1)) x.1.2.1 x.2.1.length x.2.2 e i = _ := take_map_succ _ x.1.1 hk 0
        rw [e2] at hI
        exact hI
    · show Q (leavesF (x.1.1.take x.1.1.length) x.1.2.1 x.2.1.length x.2.2 e i)
      rw [List.take_length]
      exact h
theorem p77 {x : Fashion} {Q : List BinT → Prop} (h : f77_wp x () Q) : V77 x Q := by
  obtain ⟨hx, h⟩ := h
  intro hl
  refine forUp (σ := List BinT) (n := x.1.2.2.length) hl (fun k => lotsF (x.1.2.2.take k) x.2.1 x.2.2) rfl (fun k hk I μ hI hw => ?_) ?_
  · refine ⟨by omega, by omega, fun hl2 => ?_⟩
    obtain ⟨lot, hlot⟩ : ∃ lot, lot = x.1.2.2.getD k (0, 0) := ⟨_, rfl⟩
    obtain ⟨T, hT⟩ : ∃ T : Nat → Int, T = fun j => if (x.2.1.getD j ((0, 0), 0, 0)).2.2 > lot.1 then lot.2 + 1 else at4 x.2.2 j := ⟨_, rfl⟩
    obtain ⟨L, hL⟩ : ∃ L : Nat → Int, L = fun j => at4 x.2.2 j * (lot.1 - (x.2.1.getD j ((0, 0), 0, 0)).2.2) := ⟨_, rfl⟩
    have hlt := hx.lt _ (getD_mem (d := (0, 0)) hk)
    rw [← hlot] at hlt
    refine forUp (σ := BinT) (n := x.2.1.length) hl2 (fun m => (tup4 fun j => if j < m then T j else 0, tup4 fun j => if j < m then L j else 0, lot.2, 0)) (by rw [hlot]; rfl) (fun m hm I μ hI hw => ?_) ?_
    · have hm4 : m < 4 := by have := hx.n; omega
      have hsp := hx.sp _ (getD_mem (d := ((0, 0), 0, 0)) hm)
      have hc := all4_at hx.ct hm4
      refine ⟨by omega, by omega, by omega, by omega, by omega, by omega, by omega, by omega, by omega, by omega, ?_⟩
      rw [hw]
      have e1 : IntKind.wrap .i64 (at4L x.2.2 m * IntKind.wrap .i64 (lot.1 - (x.2.1.getD m ((0, 0), 0, 0)).2.2)) = L m := by
        rw [at4_L _ hm4, hL]
        have hd : bnd 2000 (lot.1 - (x.2.1.getD m ((0, 0), 0, 0)).2.2) := ⟨by have := hlt.1.1; have := hsp.2; omega, by have := hlt.1.2; have := hsp.1; omega⟩
        rw [wrapS (x := lot.1 - _) (by have := hd.1; omega) (by have := hd.2; omega)]
        have := bnd_mul (by omega) hc hd
        exact wrapS (by have := this.1; omega) (by have := this.2; omega)
      have e2 : IntKind.wrap .i64 (lot.2 + 1) = lot.2 + 1 := wrapS (by have := hlt.2.1; omega) (by have := hlt.2.2; omega)
      have eL := set4_tup L hm4
      have eT := set4_tup T hm4
      show cnd (decide ((x.2.1.getD m ((0, 0), 0, 0)).2.2 > (x.1.2.2.getD k (0, 0)).1))
        (0 ≤ (m : Int) ∧ (m : Int) < 4 ∧ I _ (set4 (set4 (tup4 fun j => if j < m then T j else 0) m (at4L x.2.2 m)) m (IntKind.wrap .i64 ((x.1.2.2.getD k (0, 0)).2 + 1)), set4 (tup4 fun j => if j < m then L j else 0) m (IntKind.wrap .i64 (at4L x.2.2 m * IntKind.wrap .i64 ((x.1.2.2.getD k (0, 0)).1 - (x.2.1.getD m ((0, 0), 0, 0)).2.2))), lot.2, 0) ∧
          μ _ (set4 (set4 (tup4 fun j => if j < m then T j else 0) m (at4L x.2.2 m)) m (IntKind.wrap .i64 ((x.1.2.2.getD k (0, 0)).2 + 1)), set4 (tup4 fun j => if j < m then L j else 0) m (IntKind.wrap .i64 (at4L x.2.2 m * IntKind.wrap .i64 ((x.1.2.2.getD k (0, 0)).1 - (x.2.1.getD m ((0, 0), 0, 0)).2.2))), lot.2, 0) < _)
        (I _ (set4 (tup4 fun j => if j < m then T j else 0) m (at4L x.2.2 m), set4 (tup4 fun j => if j < m then L j else 0) m (IntKind.wrap .i64 (at4L x.2.2 m * IntKind.wrap .i64 ((x.1.2.2.getD k (0, 0)).1 - (x.2.1.getD m ((0, 0), 0, 0)).2.2))), lot.2, 0) ∧
          μ _ (set4 (tup4 fun j => if j < m then T j else 0) m (at4L x.2.2 m), set4 (tup4 fun j => if j < m then L j else 0) m (IntKind.wrap .i64 (at4L x.2.2 m * IntKind.wrap .i64 ((x.1.2.2.getD k (0, 0)).1 - (x.2.1.getD m ((0, 0), 0, 0)).2.2))), lot.2, 0) < _)
      rw [← hlot, set4_set4 _ _ _ hm4, e1, e2, eL]
      refine cnd_iff.2 ⟨fun h1 => ⟨by omega, by omega, ?_⟩, fun h1 => ?_⟩
      · have : T m = lot.2 + 1 := by rw [hT]; exact if_pos (of_decide_eq_true h1)
        rw [← this, eT]; exact hI
      · have : T m = at4L x.2.2 m := by rw [hT, at4_L _ hm4]; exact if_neg (of_decide_eq_false h1)
        rw [← this, eT]; exact hI
    · refine ⟨?_, ?_⟩
      · have := hx.nt
        simp only [lotsF, List.length_map, List.length_take, List.length_cons, List.length_nil]
        omega
      · rw [hw]
        have e2 : lotsF (x.1.2.2.take (k + 1)) x.2.1 x.2.2 = _ := take_map_succ _ x.1.2.2 hk (0, 0)
        rw [e2] at hI
        have e3 : lotB x.2.1 x.2.2 (x.1.2.2.getD k (0, 0)) = (tup4 fun j => if j < x.2.1.length then T j else 0, tup4 fun j => if j < x.2.1.length then L j else 0, lot.2, 0) := by
          rw [hT, hL, ← hlot]; rfl
        rw [e3] at hI
        exact hI
  · show Q (lotsF (x.1.2.2.take x.1.2.2.length) x.2.1 x.2.2)
    rw [List.take_length]
    exact h
end Go.Proofs.Fa
set_option linter.unusedVariables false
namespace Go.Proofs.Fa
open Go Go.GX Go.Proofs

def le4 (s f : FansT) : Prop := (0 ≤ s.1 ∧ s.1 ≤ f.1) ∧ (0 ≤ s.2.1 ∧ s.2.1 ≤ f.2.1) ∧ (0 ≤ s.2.2.1 ∧ s.2.2.1 ≤ f.2.2.1) ∧ (0 ≤ s.2.2.2 ∧ s.2.2.2 ≤ f.2.2.2)
theorem mem_upN {x n : Int} (hn : 0 ≤ n) : x ∈ GX.Fa.upN n ↔ 0 ≤ x ∧ x ≤ n := by
  simp only [GX.Fa.upN, List.mem_map, List.mem_range]
  constructor
  · rintro ⟨k, hk, rfl⟩; omega
  · rintro ⟨h1, h2⟩; exact ⟨x.toNat, by omega, by omega⟩
theorem mem_upTo {s f : FansT} (hf : FOK f) : s ∈ GX.Fa.upTo f ↔ le4 s f := by
  obtain ⟨⟨a1, _⟩, ⟨b1, _⟩, ⟨c1, _⟩, ⟨d1, _⟩⟩ := hf
  simp only [GX.Fa.upTo, List.mem_flatMap, List.mem_map]
  constructor
  · rintro ⟨w, hw, z, hz, y, hy, x, hx, rfl⟩
    exact ⟨(mem_upN a1).1 hx, (mem_upN b1).1 hy, (mem_upN c1).1 hz, (mem_upN d1).1 hw⟩
  · rintro ⟨h1, h2, h3, h4⟩
    exact ⟨s.2.2.2, (mem_upN d1).2 h4, s.2.2.1, (mem_upN c1).2 h3, s.2.1, (mem_upN b1).2 h2, s.1, (mem_upN a1).2 h1, rfl⟩
theorem le4.fok {s f : FansT} (h : le4 s f) (hf : FOK f) : FOK s := by
  obtain ⟨⟨a1, a2⟩, ⟨b1, b2⟩, ⟨c1, c2⟩, ⟨d1, d2⟩⟩ := hf
  obtain ⟨⟨e1, e2⟩, ⟨f1, f2⟩, ⟨g1, g2⟩, ⟨h1, h2⟩⟩ := h
  exact ⟨⟨e1, by omega⟩, ⟨f1, by omega⟩, ⟨g1, by omega⟩, ⟨h1, by omega⟩⟩
theorem le4.less {s f : FansT} (h : le4 s f) (hf : FOK f) : FOK (GX.Fa.less f s) := by
  obtain ⟨⟨a1, a2⟩, ⟨b1, b2⟩, ⟨c1, c2⟩, ⟨d1, d2⟩⟩ := hf
  obtain ⟨⟨e1, e2⟩, ⟨f1, f2⟩, ⟨g1, g2⟩, ⟨h1, h2⟩⟩ := h
  exact ⟨⟨by show 0 ≤ f.1 - s.1; omega, by show f.1 - s.1 ≤ 1000; omega⟩, ⟨by show 0 ≤ f.2.1 - s.2.1; omega, by show f.2.1 - s.2.1 ≤ 1000; omega⟩, ⟨by show 0 ≤ f.2.2.1 - s.2.2.1; omega, by show f.2.2.1 - s.2.2.1 ≤ 1000; omega⟩, ⟨by show 0 ≤ f.2.2.2 - s.2.2.2; omega, by show f.2.2.2 - s.2.2.2 ≤ 1000; omega⟩⟩
theorem FOK.bnd {f : FansT} (h : FOK f) : all4 (bnd 1000000) f := by
  obtain ⟨⟨a1, a2⟩, ⟨b1, b2⟩, ⟨c1, c2⟩, ⟨d1, d2⟩⟩ := h
  exact ⟨⟨by omega, by omega⟩, ⟨by omega, by omega⟩, ⟨by omega, by omega⟩, ⟨by omega, by omega⟩⟩
theorem loss_bnd {b : BinT} {f : FansT} (hb : BOK b) (hf : FOK f) : bnd 5000000000 (GX.Fa.lossV b f) := by
  have h1 := dot_bnd hf hb.l
  have h2 := hb.f
  unfold GX.Fa.lossV
  obtain ⟨u1, u2⟩ := h1
  obtain ⟨v1, v2⟩ := h2
  split <;> constructor <;> omega

def leastStep (b : BinT) (r : List BinT) (f : FansT) (best : Int) (s : FansT) : Int :=
  if GX.Fa.fitsB b s then (if GX.Fa.lossV b s + GX.Fa.least r (GX.Fa.less f s) < best then GX.Fa.lossV b s + GX.Fa.least r (GX.Fa.less f s) else best) else best
theorem least_cons (b : BinT) (r : List BinT) (f : FansT) : GX.Fa.least (b :: r) f = (GX.Fa.upTo f).foldl (leastStep b r f) GX.Fa.NONE := by
  rw [GX.Fa.least]; rfl
theorem BinsOK.cons {b : BinT} {r : List BinT} (h : BinsOK (b :: r)) : BOK b ∧ BinsOK r :=
  ⟨h.b b (by simp), ⟨by have := h.n; simp at this; omega, fun c hc => h.b c (by simp [hc])⟩⟩
theorem BinsOK.drop {bs : List BinT} (h : BinsOK bs) (k : Nat) : BinsOK (bs.drop k) :=
  ⟨by have := h.n; rw [List.length_drop]; omega, fun b hb => h.b b (List.mem_of_mem_drop hb)⟩
theorem least_bnd : ∀ (bs : List BinT), BinsOK bs → ∀ f, FOK f → -(bs.length * 5000000000) ≤ GX.Fa.least bs f ∧ GX.Fa.least bs f ≤ GX.Fa.NONE
  | [], _, f, _ => by
    rw [GX.Fa.least]
    split <;> simp [GX.Fa.NONE]
  | b :: r, hb, f, hf => by
    obtain ⟨h1, h2⟩ := hb.cons
    rw [least_cons]
    have key : ∀ (l : List FansT) (best : Int), (∀ s, s ∈ l → le4 s f) → -((b :: r).length * 5000000000) ≤ best → best ≤ GX.Fa.NONE →
        -((b :: r).length * 5000000000) ≤ l.foldl (leastStep b r f) best ∧ l.foldl (leastStep b r f) best ≤ GX.Fa.NONE := by
      intro l
      induction l with
      | nil => intro best _ g1 g2; exact ⟨g1, g2⟩
      | cons s l ih =>
        intro best hl g1 g2
        rw [List.foldl_cons]
        refine ih _ (fun s' hs' => hl s' (by simp [hs'])) ?_ ?_
        · have hs := hl s (by simp)
          have hL := loss_bnd h1 (hs.fok hf)
          have hr := least_bnd r h2 _ (hs.less hf)
          unfold leastStep
          have := hL.1
          have e : (((b :: r).length : Nat) : Int) = (r.length : Int) + 1 := by simp
          rw [e] at g1 ⊢
          split
          · split
            · have := hr.1; omega
            · exact g1
          · exact g1
        · unfold leastStep
          split
          · split
            · omega
            · exact g2
          · exact g2
    exact key _ _ (fun s hs => (mem_upTo hf).1 hs) (by simp [GX.Fa.NONE]; omega) (Int.le_refl _)

def rowU (x : Nat) (y z w : Nat) : List FansT := (List.range x).map fun (i : Nat) => ((i : Int), (y : Int), (z : Int), (w : Int))
def rowsU (A : Nat) (y z w : Nat) : List FansT := (List.range y).flatMap fun j => rowU A j z w
def plaU (A B : Nat) (z w : Nat) : List FansT := (List.range z).flatMap fun k => rowsU A B k w
def cubU (A B C : Nat) (w : Nat) : List FansT := (List.range w).flatMap fun l => plaU A B C l
theorem upTo_eq {f : FansT} (hf : FOK f) : GX.Fa.upTo f = cubU (f.1.toNat + 1) (f.2.1.toNat + 1) (f.2.2.1.toNat + 1) (f.2.2.2.toNat + 1) := by
  simp only [GX.Fa.upTo, GX.Fa.upN, cubU, plaU, rowsU, rowU, List.flatMap_map, List.map_map]
  rfl
theorem rowU_succ (x y z w : Nat) : rowU (x + 1) y z w = rowU x y z w ++ [((x : Int), (y : Int), (z : Int), (w : Int))] := by simp [rowU, List.range_succ]
theorem rowsU_succ (A y z w : Nat) : rowsU A (y + 1) z w = rowsU A y z w ++ rowU A y z w := by simp [rowsU, List.range_succ]
theorem plaU_succ (A B z w : Nat) : plaU A B (z + 1) w = plaU A B z w ++ rowsU A B z w := by simp [plaU, List.range_succ]
theorem cubU_succ (A B C w : Nat) : cubU A B C (w + 1) = cubU A B C w ++ plaU A B C w := by simp [cubU, List.range_succ]
theorem flatMap_pre {α : Type} (g : Nat → List α) {m n : Nat} (h : m ≤ n) : (List.range m).flatMap g <+: (List.range n).flatMap g := by
  induction n with
  | zero => obtain rfl : m = 0 := by omega
            exact List.prefix_refl _
  | succ n ih =>
    rcases Nat.lt_or_ge m (n + 1) with h1 | h1
    · refine (ih (by omega)).trans ?_
      rw [List.range_succ, List.flatMap_append]
      exact List.prefix_append _ _
    · obtain rfl : m = n + 1 := by omega
      exact List.prefix_refl _
theorem map_flat {α β : Type} (g : α → β) : ∀ (l : List α), l.map g = l.flatMap fun i => [g i]
  | [] => rfl
  | a :: l => by rw [List.map_cons, List.flatMap_cons, map_flat g l]; rfl

def befU (A B C : Nat) (x y z w : Nat) : List FansT := cubU A B C w ++ plaU A B z w ++ rowsU A y z w ++ rowU x y z w
theorem befU_pre {A B C D x y z w : Nat} (hx : x < A) (hy : y < B) (hz : z < C) (hw : w < D) : befU A B C x y z w ++ [((x : Int), (y : Int), (z : Int), (w : Int))] <+: cubU A B C D := by
  have e1 : befU A B C x y z w ++ [((x : Int), (y : Int), (z : Int), (w : Int))] = cubU A B C w ++ plaU A B z w ++ rowsU A y z w ++ rowU (x + 1) y z w := by
    rw [rowU_succ, befU]; simp only [List.append_assoc]
  rw [e1]
  have p1 : rowU (x + 1) y z w <+: rowU A y z w := by
    have := flatMap_pre (fun (i : Nat) => [((i : Int), (y : Int), (z : Int), (w : Int))]) (show x + 1 ≤ A by omega)
    rwa [← map_flat, ← map_flat] at this
  have a1 : cubU A B C w ++ plaU A B z w ++ rowsU A y z w ++ rowU (x + 1) y z w <+: cubU A B C w ++ plaU A B z w ++ rowsU A (y + 1) z w := by
    rw [rowsU_succ, List.append_assoc, List.append_assoc, List.append_assoc]
    exact (List.prefix_append_right_inj _).2 ((List.prefix_append_right_inj _).2 ((List.prefix_append_right_inj _).2 p1))
  have p2 : rowsU A (y + 1) z w <+: rowsU A B z w := flatMap_pre _ (by omega)
  have a2 : cubU A B C w ++ plaU A B z w ++ rowsU A (y + 1) z w <+: cubU A B C w ++ plaU A B (z + 1) w := by
    rw [plaU_succ, List.append_assoc]
    exact (List.prefix_append_right_inj _).2 ((List.prefix_append_right_inj _).2 p2)
  have p3 : plaU A B (z + 1) w <+: plaU A B C w := flatMap_pre _ (by omega)
  have a3 : cubU A B C w ++ plaU A B (z + 1) w <+: cubU A B C (w + 1) := by
    rw [cubU_succ]
    exact (List.prefix_append_right_inj _).2 p3
  exact ((a1.trans a2).trans a3).trans (flatMap_pre _ (by omega))
end Go.Proofs.Fa
set_option linter.unusedVariables false
namespace Go.Proofs.Fa
open Go Go.GX Go.Proofs

theorem p88 {l : Nat} {f : FansT} (hf : FOK f) : V88 l f (GX.Fa.upTo f) := by
  rw [upTo_eq hf]
  obtain ⟨⟨a1, a2⟩, ⟨b1, b2⟩, ⟨c1, c2⟩, ⟨d1, d2⟩⟩ := hf
  obtain ⟨fx, fy, fz, fw⟩ := f
  simp only at a1 a2 b1 b2 c1 c2 d1 d2
  obtain ⟨A, rfl⟩ := Int.eq_ofNat_of_zero_le a1
  obtain ⟨B, rfl⟩ := Int.eq_ofNat_of_zero_le b1
  obtain ⟨C, rfl⟩ := Int.eq_ofNat_of_zero_le c1
  obtain ⟨D, rfl⟩ := Int.eq_ofNat_of_zero_le d1
  simp only [Int.toNat_natCast]
  have wr : ∀ k : Nat, k ≤ 1000 → IntKind.wrap .i64 ((k : Int) + 1) = ((k + 1 : Nat) : Int) := fun k hk => by rw [wrapS (by omega) (by omega)]; push_cast; rfl
  have hI : ∀ x y z w : Nat, x ≤ A → y ≤ B → z ≤ C → w ≤ D → (befU (A + 1) (B + 1) (C + 1) x y z w).length < (cubU (A + 1) (B + 1) (C + 1) (D + 1)).length := fun x y z w hx hy hz hw => by
    have := (befU_pre (A := A + 1) (B := B + 1) (C := C + 1) (D := D + 1) (x := x) (y := y) (z := z) (w := w) (by omega) (by omega) (by omega) (by omega)).length_le
    simp only [List.length_append, List.length_cons, List.length_nil] at this
    omega
  refine ⟨fun g s => ∃ x y z w : Nat, (x ≤ A ∧ y ≤ B ∧ z ≤ C ∧ w ≤ D) ∧ s = ((x : Int), (y : Int), (z : Int), (w : Int)) ∧ g = befU (A + 1) (B + 1) (C + 1) x y z w,
    fun s => (cubU (A + 1) (B + 1) (C + 1) (D + 1)).length - (befU (A + 1) (B + 1) (C + 1) s.1.toNat s.2.1.toNat s.2.2.1.toNat s.2.2.2.toNat).length, ⟨0, 0, 0, 0, ⟨by omega, by omega, by omega, by omega⟩, rfl, rfl⟩, ?_⟩
  rintro g s ⟨x, y, z, w, ⟨hx, hy, hz, hw⟩, rfl, rfl⟩
  obtain ⟨rest, hrest⟩ := befU_pre (A := A + 1) (B := B + 1) (C := C + 1) (D := D + 1) (x := x) (y := y) (z := z) (w := w) (by omega) (by omega) (by omega) (by omega)
  refine ⟨rfl, rest, by rw [← hrest]; simp, ?_, trivial⟩

  have next : ∀ x' y' z' w' : Nat, x' ≤ A → y' ≤ B → z' ≤ C → w' ≤ D → befU (A + 1) (B + 1) (C + 1) x' y' z' w' = befU (A + 1) (B + 1) (C + 1) x y z w ++ [((x : Int), (y : Int), (z : Int), (w : Int))] →
      (∃ x'' y'' z'' w'' : Nat, (x'' ≤ A ∧ y'' ≤ B ∧ z'' ≤ C ∧ w'' ≤ D) ∧ (((x' : Int), (y' : Int), (z' : Int), (w' : Int)) : FansT) = ((x'' : Int), (y'' : Int), (z'' : Int), (w'' : Int)) ∧ befU (A + 1) (B + 1) (C + 1) x y z w ++ [((x : Int), (y : Int), (z : Int), (w : Int))] = befU (A + 1) (B + 1) (C + 1) x'' y'' z'' w'') ∧
      (cubU (A + 1) (B + 1) (C + 1) (D + 1)).length - (befU (A + 1) (B + 1) (C + 1) (x' : Int).toNat (y' : Int).toNat (z' : Int).toNat (w' : Int).toNat).length < (cubU (A + 1) (B + 1) (C + 1) (D + 1)).length - (befU (A + 1) (B + 1) (C + 1) (x : Int).toNat (y : Int).toNat (z : Int).toNat (w : Int).toNat).length := by
    intro x' y' z' w' h1 h2 h3 h4 he
    refine ⟨⟨x', y', z', w', ⟨h1, h2, h3, h4⟩, rfl, he.symm⟩, ?_⟩
    simp only [Int.toNat_natCast]
    have := hI x' y' z' w' h1 h2 h3 h4
    have e := congrArg List.length he
    simp only [List.length_append, List.length_cons, List.length_nil] at e
    omega
  refine ⟨fun g j t => g = befU (A + 1) (B + 1) (C + 1) x y z w ++ [((x : Int), (y : Int), (z : Int), (w : Int))] ∧ ((j = 0 ∧ t = ((x : Int), (y : Int), (z : Int), (w : Int))) ∨ (j = 1 ∧ x = A ∧ t = ((0 : Int), (y : Int), (z : Int), (w : Int))) ∨ (j = 2 ∧ (x = A ∧ y = B) ∧ t = ((0 : Int), (0 : Int), (z : Int), (w : Int))) ∨ (j = 3 ∧ (x = A ∧ y = B ∧ z = C) ∧ t = ((0 : Int), (0 : Int), (0 : Int), (w : Int))) ∨ (j = 4 ∧ (x = A ∧ y = B ∧ z = C ∧ w = D) ∧ t = ((0 : Int), (0 : Int), (0 : Int), (0 : Int)))),
    fun j _ => (4 - j).toNat, ⟨rfl, .inl ⟨rfl, rfl⟩⟩, ?_⟩
  rintro g j t ⟨rfl, h⟩
  have e1 : ∀ x y z w : Nat, rowU (x + 1) y z w = rowU x y z w ++ [((x : Int), (y : Int), (z : Int), (w : Int))] := rowU_succ
  have e2 : ∀ x y z w : Nat, rowsU (x + 1) (y + 1) z w = rowsU (x + 1) y z w ++ (rowU x y z w ++ [((x : Int), (y : Int), (z : Int), (w : Int))]) := fun x y z w => by rw [rowsU_succ, e1]
  have e3 : ∀ x y z w : Nat, plaU (x + 1) (y + 1) (z + 1) w = plaU (x + 1) (y + 1) z w ++ (rowsU (x + 1) y z w ++ (rowU x y z w ++ [((x : Int), (y : Int), (z : Int), (w : Int))])) := fun x y z w => by rw [plaU_succ, e2]
  have e4 : ∀ x y z w : Nat, cubU (x + 1) (y + 1) (z + 1) (w + 1) = cubU (x + 1) (y + 1) (z + 1) w ++ (plaU (x + 1) (y + 1) z w ++ (rowsU (x + 1) y z w ++ (rowU x y z w ++ [((x : Int), (y : Int), (z : Int), (w : Int))]))) := fun x y z w => by rw [cubU_succ, e3]
  rcases h with ⟨rfl, rfl⟩ | ⟨rfl, rfl, rfl⟩ | ⟨rfl, ⟨rfl, rfl⟩, rfl⟩ | ⟨rfl, ⟨rfl, rfl, rfl⟩, rfl⟩ | ⟨rfl, ⟨rfl, rfl, rfl, rfl⟩, rfl⟩
  · refine ⟨by omega, by omega, by omega, by omega, cnd_iff.2 ⟨fun h => ⟨by omega, by omega, ⟨rfl, .inr (.inl ⟨rfl, ?_, rfl⟩)⟩, by show (4 - (1 : Int)).toNat < (4 - (0 : Int)).toNat; decide⟩, fun h => ⟨by omega, by omega, by omega, by omega, ?_⟩⟩⟩
    · have h : ((x : Int) == (A : Int)) = true := h
      have := eq_of_beq h; omega
    · have h : ((x : Int) == (A : Int)) = false := h
      have h : x ≠ A := by intro e; rw [e] at h; simp at h
      show (∃ x'' y'' z'' w'' : Nat, _ ∧ ((IntKind.wrap .i64 ((x : Int) + 1), (y : Int), (z : Int), (w : Int)) : FansT) = _ ∧ _) ∧ _ - (befU _ _ _ (IntKind.wrap .i64 ((x : Int) + 1)).toNat (y : Int).toNat (z : Int).toNat (w : Int).toNat).length < _
      rw [wr x (by omega)]
      exact next (x + 1) y z w (by omega) hy hz hw (by rw [befU, befU, rowU_succ]; simp only [List.append_assoc])
  · refine ⟨by omega, by omega, by omega, by omega, cnd_iff.2 ⟨fun h => ⟨by omega, by omega, ⟨rfl, .inr (.inr (.inl ⟨rfl, ⟨rfl, ?_⟩, rfl⟩))⟩, by show (4 - (2 : Int)).toNat < (4 - (1 : Int)).toNat; decide⟩, fun h => ⟨by omega, by omega, by omega, by omega, ?_⟩⟩⟩
    · have h : ((y : Int) == (B : Int)) = true := h
      have := eq_of_beq h; omega
    · have h : ((y : Int) == (B : Int)) = false := h
      have h : y ≠ B := by intro e; rw [e] at h; simp at h
      show (∃ x'' y'' z'' w'' : Nat, _ ∧ (((0 : Int), IntKind.wrap .i64 ((y : Int) + 1), (z : Int), (w : Int)) : FansT) = _ ∧ _) ∧ _ - (befU _ _ _ (0 : Int).toNat (IntKind.wrap .i64 ((y : Int) + 1)).toNat (z : Int).toNat (w : Int).toNat).length < _
      rw [wr y (by omega)]
      exact next 0 (y + 1) z w (by omega) (by omega) hz hw (by rw [befU, befU, e2]; simp only [List.append_assoc]; rfl)
  · refine ⟨by omega, by omega, by omega, by omega, cnd_iff.2 ⟨fun h => ⟨by omega, by omega, ⟨rfl, .inr (.inr (.inr (.inl ⟨rfl, ⟨rfl, rfl, ?_⟩, rfl⟩)))⟩, by show (4 - (3 : Int)).toNat < (4 - (2 : Int)).toNat; decide⟩, fun h => ⟨by omega, by omega, by omega, by omega, ?_⟩⟩⟩
    · have h : ((z : Int) == (C : Int)) = true := h
      have := eq_of_beq h; omega
    · have h : ((z : Int) == (C : Int)) = false := h
      have h : z ≠ C := by intro e; rw [e] at h; simp at h
      show (∃ x'' y'' z'' w'' : Nat, _ ∧ (((0 : Int), (0 : Int), IntKind.wrap .i64 ((z : Int) + 1), (w : Int)) : FansT) = _ ∧ _) ∧ _ - (befU _ _ _ (0 : Int).toNat (0 : Int).toNat (IntKind.wrap .i64 ((z : Int) + 1)).toNat (w : Int).toNat).length < _
      rw [wr z (by omega)]
      exact next 0 0 (z + 1) w (by omega) (by omega) (by omega) hw (by rw [befU, befU, e3]; simp only [List.append_assoc]; rfl)
  · refine ⟨by omega, by omega, by omega, by omega, cnd_iff.2 ⟨fun h => ⟨by omega, by omega, ⟨rfl, .inr (.inr (.inr (.inr ⟨rfl, ⟨rfl, rfl, rfl, ?_⟩, rfl⟩)))⟩, by show (4 - (4 : Int)).toNat < (4 - (3 : Int)).toNat; decide⟩, fun h => ⟨by omega, by omega, by omega, by omega, ?_⟩⟩⟩
    · have h : ((w : Int) == (D : Int)) = true := h
      have := eq_of_beq h; omega
    · have h : ((w : Int) == (D : Int)) = false := h
      have h : w ≠ D := by intro e; rw [e] at h; simp at h
      show (∃ x'' y'' z'' w'' : Nat, _ ∧ (((0 : Int), (0 : Int), (0 : Int), IntKind.wrap .i64 ((w : Int) + 1)) : FansT) = _ ∧ _) ∧ _ - (befU _ _ _ (0 : Int).toNat (0 : Int).toNat (0 : Int).toNat (IntKind.wrap .i64 ((w : Int) + 1)).toNat).length < _
      rw [wr w (by omega)]
      refine next 0 0 0 (w + 1) (by omega) (by omega) (by omega) (by omega) ?_
      rw [befU, befU, e4]
      simp only [List.append_assoc]
      rfl
  · show befU _ _ _ x y z w ++ [((x : Int), (y : Int), (z : Int), (w : Int))] = _
    rw [befU, e4]
    simp only [List.append_assoc]
theorem fold_snoc {α β : Type} (g : β → α → β) (b : β) (l : List α) (x : α) : (l ++ [x]).foldl g b = g (l.foldl g b) x := by simp
theorem p82 {n : Nat} {p : Pk} {i : Int} {f : FansT} {Q : Int → Prop} (h : f82n_wp (n + 1) (p, i, f, ()) () Q) : V82 n p i f Q := by
  obtain ⟨⟨hp, hf, h0, h1, h2⟩, h⟩ := h
  have hp : POK p := hp
  have hf : FOK f := hf
  have hN : p.1.length ≤ 1000 := hp.b.n
  have h0 : 0 ≤ i := h0
  have h1 : i ≤ p.1.length := h1
  have h2 : p.1.length < i.toNat + (n + 1) := h2
  have h : Q (GX.Fa.least (p.1.drop i.toNat) f) := h
  refine cnd_iff.2 ⟨fun hc => ?_, fun hc => ?_⟩
  · have hc : i = p.1.length := eq_of_beq hc
    rw [List.drop_eq_nil_of_le (by omega), GX.Fa.least] at h
    refine cnd_iff.2 ⟨fun hc2 => ?_, fun hc2 => ?_⟩
    · have e : GX.Fa.isNo f = true := by simpa [GX.Fa.isNo, Bool.and_assoc] using hc2
      rw [if_pos e] at h; exact h
    · have e : GX.Fa.isNo f = false := by
        have : (GX.Fa.isNo f && true) = false := by simpa [GX.Fa.isNo, Bool.and_assoc] using hc2
        simpa using this
      rw [e] at h; exact h
  · have hc : i ≠ p.1.length := by intro e; rw [e] at hc; simp at hc
    obtain ⟨k, rfl⟩ := Int.eq_ofNat_of_zero_le h0
    have hk : k < p.1.length := by omega
    have hk2 : (k : Int).toNat = k := Int.toNat_natCast k
    rw [hk2] at h h2
    intro v has hv
    refine cnd_iff.2 ⟨fun hh => ?_, fun hh => ⟨hf, ?_⟩⟩
    · have := hv hh
      have : v = GX.Fa.least (p.2.drop k) f := this
      rw [this, hp.e]; exact h
    have hd : p.1.drop k = p.1.getD k default :: p.1.drop (k + 1) := by rw [List.drop_eq_getElem_cons hk, getD_lt hk]
    obtain ⟨b, hb⟩ : ∃ b : BinT, b = p.1.getD k ((0, 0, 0, 0), (0, 0, 0, 0), 0, 0) := ⟨_, rfl⟩
    have hd : p.1.drop k = b :: p.1.drop (k + 1) := by rw [List.drop_eq_getElem_cons hk, hb, getD_lt hk]
    rw [hd, least_cons] at h
    have hB := hp.b.drop k
    rw [hd] at hB
    obtain ⟨hb1, hr1⟩ := hB.cons
    refine ⟨fun pre x => x = pre.foldl (leastStep b (p.1.drop (k + 1)) f) GX.Fa.NONE, rfl, ?_, ?_⟩
    · intro pre s rest hxs best hbest
      have hs : le4 s f := (mem_upTo hf).1 (by
        have hxs : GX.Fa.upTo f = pre ++ s :: rest := hxs
        rw [hxs]; simp)
      have hsf := hs.fok hf
      refine ⟨by omega, by omega, ?_⟩
      refine ⟨⟨by show BOK (p.1.getD k _); rw [← hb]; exact hb1, hsf⟩, ?_⟩
      show cnd (GX.Fa.fitsB (p.1.getD k ((0, 0, 0, 0), (0, 0, 0, 0), 0, 0)) s) _ _
      rw [← hb]
      have hbest : best = pre.foldl (leastStep b (p.1.drop (k + 1)) f) GX.Fa.NONE := hbest
      refine cnd_iff.2 ⟨fun hfit => ?_, fun hfit => ?_⟩
      · refine ⟨_, ⟨⟨by show BOK (p.1.getD k _); rw [← hb]; exact hb1, hsf⟩, rfl⟩, _, ⟨⟨hf.bnd, hsf.bnd⟩, rfl⟩, GX.Fa.least (p.1.drop (k + 1)) (GX.Fa.less f s), ⟨⟨hp, hs.less hf, ?_, ?_, ?_⟩, ?_⟩, ?_⟩
        · show 0 ≤ IntKind.wrap .i64 ((k : Int) + 1)
          rw [wrapS (by omega) (by omega)]; omega
        · show IntKind.wrap .i64 ((k : Int) + 1) ≤ p.1.length
          rw [wrapS (by omega) (by omega)]; omega
        · show p.1.length < (IntKind.wrap .i64 ((k : Int) + 1)).toNat + n
          rw [wrapS (by omega) (by omega)]; omega
        · show GX.Fa.least (p.1.drop (IntKind.wrap .i64 ((k : Int) + 1)).toNat) (GX.Fa.less f s) = GX.Fa.least (p.1.drop (k + 1)) (GX.Fa.less f s)
          rw [wrapS (by omega) (by omega)]
          rfl
        · show mnI best (IntKind.wrap .i64 (GX.Fa.lossV (p.1.getD k _) s + _)) = (pre ++ [s]).foldl _ _
          rw [fold_snoc, ← hbest, ← hb]
          have hL := loss_bnd hb1 hsf
          have hR := least_bnd _ hr1 _ (hs.less hf)
          have hn := hr1.n
          rw [wrapS (by have := hL.1; have := hR.1; omega) (by have := hL.2; have := hR.2; simp only [GX.Fa.NONE] at this; omega)]
          unfold leastStep mnI
          rw [if_pos hfit]
      · show best = (pre ++ [s]).foldl _ _
        rw [fold_snoc, ← hbest]
        unfold leastStep
        rw [if_neg (by rw [hfit]; simp)]
    · intro best hbest
      have hbest : best = (GX.Fa.upTo f).foldl (leastStep b (p.1.drop (k + 1)) f) GX.Fa.NONE := hbest
      refine ⟨?_, by rw [hbest]; exact h⟩
      show best = GX.Fa.least (p.2.drop (k : Int).toNat) f
      rw [hk2, hp.e, hd, least_cons]
      exact hbest
end Go.Proofs.Fa
set_option maxRecDepth 100000
set_option linter.unusedVariables false
namespace Go.Proofs.Fa
open Go Go.GX Go.Proofs Go.RowKit Go.Shelf
theorem belowA (W : World) (o : Obj) : Below W.heap.size W (W.alloc o) := (Below.refl _ _).alloc (Nat.le_refl _) o
theorem mk81 : Enters Try.prog 81 ∧ ∀ (W : World) (A : Option Addr) (n c : Nat), Calls Try.prog 81 #[.slice A n c] W fun e w' =>
    e = .returned (.pointer (some ⟨W.heap.size + 1, 0, none⟩)) ∧ w' = (W.alloc (.map #[] 0)).alloc (.cells #[.slice A n c, .map (some W.heap.size)] 140 (0, 0)) := by
  refine ⟨enters_of Try.func81 (by kernel_rfl) rfl, fun W A n c => ?_⟩
  have hmm := @run_makeMap Try.prog
  go_enter Try.func81, Try.ntmps81
  go_wp2
  go_ret
  exact ⟨rfl, rfl⟩
variable [Inhabited BaseD]
theorem ok81 : CallsOK Try.prog (assoc glT) 81 f81_ct where
  enters := mk81.1
  calls := fun X W x y vs cs hX hg hv hc Q hQ => by
    obtain ⟨v, rfl, hv⟩ := hv
    have hc : cs = [] := hc
    subst hc
    have hv0 := hv
    obtain ⟨A, c, rfl, hlc, hcm, hrow⟩ := hv
    refine (mk81.2 W A x.length c).mono ?_
    rintro e w' ⟨rfl, hw⟩
    have hQ : Q (x, x) := hQ.2
    have hb1 : Below W.heap.size W w' := by
      rw [hw]
      exact (belowA W _).alloc (by simp) _
    have e1 : Evo X W X w' := Evo.below hX hb1
    have hm : w'.heap[W.heap.size]? = some (.map #[] 0) := by
      rw [hw, Below.heap_alloc _ _ _ (by simp), World.alloc_heap_new]
    have hs : (W.alloc (.map #[] 0)).heap.size = W.heap.size + 1 := by simp
    have hp : w'.heap[W.heap.size + 1]? = some (.cells #[.slice A x.length c, .map (some W.heap.size)] 140 (0, 0)) := by
      have := World.alloc_heap_new (W.alloc (.map #[] 0)) (.cells #[.slice A x.length c, .map (some W.heap.size)] 140 (0, 0))
      rw [hs] at this
      rw [hw]; exact this
    have hx1 : ¬ X (W.heap.size + 1) := fun h => by have := hX _ h; omega
    have hv1 := (Kd.stands Try.prog k103).val e1 hv0
    refine ⟨(x, x), _, rfl, ⟨W.heap.size + 1, _, rfl, hx1, hp, [.slice A x.length c], [.map (some W.heap.size)], rfl, ⟨_, rfl, rfl, hv1⟩, ⟨_, rfl, rfl, rfl, W.heap.size, rfl, ?_, ?_⟩⟩, Bel.ofBelow hb1, hQ⟩
    · refine ⟨⟨hx1, hg.1⟩, A, c, hp, fun hne => ?_⟩
      obtain ⟨A', c', he, _, _, hr⟩ := hv1
      cases he
      have hne : x ≠ [] := hne
      obtain ⟨ad, hA, hxa, _, hcell⟩ := hr hne
      have key : ∀ (j : Nat) b, (show List memoK.T from x)[j]? = some b → ∀ (i : Nat) u, (memoK.fc b)[i]? = some u → w'.cell? (ad.add (j * memoK.n + i)) = some u := fun j b hj i u hu => by
        obtain ⟨ecs, h1, h2⟩ := hcell j b hj
        have h1 : ecs = memoK.fc b := (Kd.fc_cells Try.prog memoK rfl).1 h1
        subst h1
        exact h2 i u hu
      refine ⟨ad, hA, hxa, ?_, key⟩
      cases hxx : x with
      | nil => exact absurd hxx hne
      | cons b r =>
        have := key 0 b (by rw [hxx]; rfl) 0 _ rfl
        have := cells_of_cell? this
        rwa [add_block] at this
    · exact ⟨#[], 0, hm, fun e he => by simp at he⟩
theorem st0 : StatOK Try.prog (S00 [] []) := statOK_of st_ok
theorem ct0 : CtOK Try.prog (assoc glT) (S00 [] []) := ctOK_of AllOK.nil mk_ok in_ok
theorem up_ok : ItmOK Try.prog (assoc glT) 88 upIt :=
  itm_of Try.func88 (by kernel_rfl) (by kernel_rfl) f88_an upIt rfl y88_ct (fun _ _ => st0) (fun _ _ => ct0) (fun _ _ => rfl)
    (fun T hT B0 We => yopY_ok (A := k97) (T := T) (B0 := B0) (We := We) st0 ct0 rfl hT (fun lab => Nat.beq lab 202) (fun id => cond (Nat.beq id 4) 11 0))
    (fun x l hx => (V88E l x _).mp (p88 hx))
theorem it_ok : AllItm Try.prog (assoc glT) itT := AllItm.cons up_ok AllItm.nil
theorem f82z {x : Pk × Int × FansT × Unit} {y : Unit} {Q : Int → Prop} (h : f82n_wp 0 x y Q) : False := by
  obtain ⟨⟨_, _, h0, h1, h2⟩, _⟩ := h
  omega
theorem f82all {x : Pk × Int × FansT × Unit} {y : Unit} {Q : Int → Prop} (h : f82_wp x y Q) : f82n_wp (x.1.1.length + 1) x y Q := by
  obtain ⟨⟨a, b, h0, h1⟩, h2⟩ := h
  exact ⟨⟨a, b, h0, h1, by omega⟩, h2⟩
theorem ok82n : ∀ n : Nat, CallsOK Try.prog (assoc glT) 97 f97_ct → CallsOK Try.prog (assoc glT) 98 f98_ct → CallsOK Try.prog (assoc glT) 99 f99_ct → CallsOK Try.prog (assoc glT) 82 (f82n_ct n)
  | 0, _, _, _ => ⟨enters_of Try.func82 (by kernel_rfl) rfl, fun X W x y vs cs _ _ _ _ Q h => (f82z (y := y) h).elim⟩
  | n + 1, h97, h98, h99 => callsOK_mkM [] st_ok mp_ok it_ok mk_ok in_ok (AllOK.cons (ok82n n h97 h98 h99) (AllOK.cons h97 (AllOK.cons h98 (AllOK.cons h99 AllOK.nil)))) f82_an Try.func82 (by kernel_rfl) (by kernel_rfl) (f82n_ct (n + 1)) fun ⟨p, i, f, _⟩ _ Q h => (V82E n p i f Q).mp (p82 h)
theorem ok82x (h97 : CallsOK Try.prog (assoc glT) 97 f97_ct) (h98 : CallsOK Try.prog (assoc glT) 98 f98_ct) (h99 : CallsOK Try.prog (assoc glT) 99 f99_ct) : CallsOK Try.prog (assoc glT) 82 f82_ct where
  enters := (ok82n 0 h97 h98 h99).enters
  calls := fun X W x y vs cs hX hg hv hc Q h => (ok82n (x.1.1.length + 1) h97 h98 h99).calls X W x y vs cs hX hg hv hc Q (f82all (y := y) h)
end Go.Proofs.Fa
