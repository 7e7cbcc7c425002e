/- Part 7 of the texts behind the proof: Gx28, TqCi, TqVi, TqP3, TqO1, TqI, TqP4, TqO2, TqV3, TqP5, TqP6, TqP7, TqV4, TqP8. -/
import Derived.Test.YtgcgakefjfhnkaaG06
import Derived.Test.YtgcgakefjfhnkaaProg
import Derived.WalkKit
import Derived.Shelf.Lay
import Derived.Laws.Rows
set_option linter.unusedSimpArgs false
set_option linter.unusedVariables false
set_option linter.unusedSectionVars false
set_option linter.unusedVariables false
namespace Go.GX
variable [Inhabited BaseD]
open Go.RowKit Go.Shelf Go.Proofs

def yEnd {α : Type} (S : Stat) (rs : List ResultVar) (k : Option Bool → List α → Bool → Prop) (st : St) (g : List α) (s : Bool) : Prop :=
  match rs with
  | [] => k none g s
  | [rv] => oneB (resSV S st rv) fun b => k (some b) g s
  | _ => False

def yFin {α : Type} (S : Stat) (rs : List ResultVar) (k : Option Bool → List α → Bool → Prop) (e : Xt) (st : St) (g : List α) (s : Bool) : Prop :=
  match e with
  | .exit _ => False
  | .norm => yEnd S rs k st g s
  | .ret => yEnd S rs k st g s

section
variable {P : Program} {glb : Nat → Option GV} {α : Type} {T : Yt P α} {B0 : Nat → Prop} {We : World} {Y : YS α}

def obVal : Option Bool → Value
  | some b => .bool b
  | none => .tuple #[]

def YE (T : Yt P α) (B0 : Nat → Prop) (We : World) (k : Option Bool → List α → Bool → Prop) (e : Ending) (W' : World) : Prop :=
  ∃ ob g s I' E', e = .returned (obVal ob) ∧ k ob g s ∧ (s = false → T.J g I' E' W') ∧ (s = true → T.Jx I' W') ∧ (∀ j, B0 j → I' j) ∧ (∀ j, I' j → E' j) ∧ (∀ j, E' j → B0 j ∨ (We.heap.size ≤ j ∧ j < W'.heap.size)) ∧ Kept T.X T.W0 B0 We W'

theorem ItOK.keptNow {I E : Nat → Prop} {Wl W : World} {g : List α} {s : Bool} {st : St} {ρ : Lab} {a : Act} (h : ItOK glb T B0 We g s st ρ a W I E Wl) : Kept T.X T.W0 B0 We W :=
  h.kept.trans h.keptW fun _ h => h

theorem ItOK.done {I E : Nat → Prop} {Wl W : World} {g : List α} {s : Bool} {st : St} {ρ : Lab} {a : Act} (h : ItOK glb T B0 We g s st ρ a W I E Wl) {k : Option Bool → List α → Bool → Prop} {ob : Option Bool} (hk : k ob g s) : YE T B0 We k (.returned (obVal ob)) W := by
  refine ⟨ob, g, s, nowI I Wl W, nowI E Wl W, rfl, hk, fun hs => T.jt _ _ _ _ _ _ _ (h.j hs) h.turned, fun hs => T.jxt _ _ _ _ (h.jx hs) h.turned0, fun j hj => .inl (h.b0 j hj), h.ieNow, ?_, h.keptNow⟩
  rintro j (hj | hj)
  · rcases h.new j hj with h1 | h1
    · exact .inl h1
    · exact .inr ⟨h1, Nat.lt_of_lt_of_le (h.low j hj).2 h.mt.bel.size⟩
  · exact .inr ⟨Nat.le_trans h.kept.size hj.1, hj.2⟩

theorem y_run {n : Nat} (hS : StatOK P Y.S) (hct : CtOK P glb Y.S) (hg : Y.S.glb = glb) (hy : YopOK glb T B0 We Y) (an : Nat → Items) {f : FuncId} {fn : Func} {c : Code} (hf : P.funcs[f]? = some fn) (hb : fn.body = some c) {vs : List Value} {st0 : St} {ρ0 : Lab} {W : World} {g : List α} {I E : Nat → Prop} {Wl : World}
    (h0 : ItOK glb T B0 We g false st0 ρ0 { tmps := vs.toArray ++ Array.replicate (fn.ntmps - vs.toArray.size) undef, defers := [] } W I E Wl) (k : Option Bool → List α → Bool → Prop) (hvc : vcY Y an c st0 g false (yFin Y.S fn.results.toList k)) : CallsIn Fence.wide n P f vs.toArray W (YE T B0 We k) := by
  refine callsIn_of_wp_marks (F := Fence.wide) (n := n) hf hb trivial ?_
  refine wpIn_mono ((vcY_ok_all (n := n) hS hct hg hy an c).1 _ _ _ _ _ _ _ _ _ _ h0 hvc) ?_
  rintro e a' W' ⟨xt, st', ρ', g', s', I', E', Wl', rfl, hk, hf', m'⟩
  have fin : yEnd Y.S fn.results.toList k st' g' s' → LeavesInM Fence.wide n P fn a'.tmps (YE T B0 We k) a'.defers .returning W' := by
    intro hk
    obtain ⟨Ds, hDs, hnd, hDD⟩ := m'.mt.dfr
    rw [hDs]
    refine takeAll_leaves Ds W' hnd (fun D hD => (hDD D hD).1) ?_
    have m' := m'.go (m'.mt.taken hDD) (fun hg => (m'.nd hg).symm)
    revert m'
    generalize takeAll W' Ds = W'
    intro m'
    have run : ∀ us : List Value, (fn.results.toList.mapM (resOne a'.tmps)).run P W' = .ok us W' → (results fn a'.tmps).run P W' = .ok (if h : us.toArray.size = 1 then us.toArray[0] else .tuple us.toArray) W' := by
      intro us hr
      have hm : fn.results.mapM (resOne a'.tmps) = (do pure (← fn.results.toList.mapM (resOne a'.tmps)).toArray) := by
        rw [Array.mapM_eq_mapM_toList]
        simp
      have hres : results fn a'.tmps = (do
          let vs ← fn.results.mapM (resOne a'.tmps)
          pure (if h : vs.size = 1 then vs[0] else .tuple vs)) := by
        unfold results
        congr 1
      rw [hres, hm]
      simp only [Sem.run_bind, hr, Result.andThen_ok, Sem.run_pure]
    unfold yEnd at hk
    split at hk
    · rename_i hrs
      refine ⟨_, run [] (by rw [hrs]; rfl), ?_⟩
      exact m'.done (ob := none) hk
    · rename_i rv hrs
      obtain ⟨b0, hbe, _⟩ := oneB_get hk
      obtain ⟨v, hv, hrep⟩ := resSV_ok (W := W') hS m'.mt rv (by rw [hbe]; intro h; cases h)
      obtain ⟨b, hk2, hub⟩ := oneB_ok hk hrep
      subst hub
      refine ⟨_, run [.bool b] (by rw [hrs]; simp [List.mapM_cons, hv, Result.andThen_ok]), ?_⟩
      exact m'.done (ob := some b) hk2
    · exact hk.elim
  cases xt with
  | norm => exact fin hk
  | ret => exact fin hk
  | exit i => exact hk.elim

theorem mt_start {Bk X0 : Nat → Prop} {W : World} {fn : Func} {ss : List SV} {vs : List Value} {hp : Nat → Option (HE × Nat)} {ρ : Lab} {cnt : Nat} {dom : List Nat} (h1 : vs.length ≤ fn.ntmps) (h2 : ss.length = vs.length)
    (hrep : ∀ i v, vs[i]? = some v → RepV P ρ X0 W (tmOf ss i) v) (hps : ∀ l he q, hp l = some (he, q) → ∃ v, ρ l = some v ∧ HEok P 0 ρ X0 W he v ∧ ∀ k, ¬ OwnB ρ he v k)
    (hX : ∀ k, X0 k → k < W.heap.size) (hBk : ∀ k, Bk k → k < W.heap.size) (hglb : GlbOK P glb X0 W) (hdom : ∀ l v, ρ l = some v → memL l dom = true) (hst : ∀ l he q, hp l = some (he, q) → q ≤ cnt) :
    Mt P glb Bk X0 W ⟨fn.ntmps, tmOf ss, hp, cnt, dom⟩ ρ { tmps := vs.toArray ++ Array.replicate (fn.ntmps - vs.toArray.size) undef, defers := [] } W := by
  have noOwn : ∀ {l he q v k}, hp l = some (he, q) → ρ l = some v → ¬ OwnB ρ he v k := by
    intro l he q v k hl hv
    obtain ⟨v', hv', _, hn⟩ := hps l he q hl
    rw [hv] at hv'; cases hv'
    exact hn k
  have hXs : ∀ k, Xs ⟨fn.ntmps, tmOf ss, hp, cnt, dom⟩ ρ X0 k → X0 k := by
    rintro k (h | ⟨l, he, q, v, h1, h2, h3⟩)
    · exact h
    · exact absurd h3 (noOwn h1 h2)
  have ev : Evo X0 W (Xs ⟨fn.ntmps, tmOf ss, hp, cnt, dom⟩ ρ X0) W := Evo.mono (fun k hk => hX k (hXs k hk)) hXs
  refine ⟨?_, DefOK.nil, fun t => ?_, fun l he q h => ?_, fun l l' he he' q q' v v' k h h' h2 h2' h3 => absurd h3 (noOwn h h2), hX, hBk, .refl _ _, fun l he q v k h h2 h3 => absurd h3 (noOwn h h2), hglb.evo ev, hdom, hst⟩
  · simp only [Array.size_append, Array.size_replicate, List.size_toArray]; omega
  · refine RepV.mono (Lab.le_refl _) ev ?_
    show RepV P ρ X0 W (tmOf ss t) _
    by_cases ht : t < vs.length
    · have hget : (vs.toArray ++ Array.replicate (fn.ntmps - vs.toArray.size) undef).getD t undef = vs[t] := by
        rw [Array.getD_eq_getD_getElem?, Array.getElem?_append_left (by simpa using ht), List.getElem?_toArray, List.getElem?_eq_getElem ht]
        rfl
      rw [hget]
      exact hrep t _ (List.getElem?_eq_getElem ht)
    · rw [tmOf_past _ t (by omega)]
      trivial
  · obtain ⟨v, hv, hok, _⟩ := hps l he q h
    exact ⟨v, hv, hok.mono ρ.le_refl ev (fun _ _ => rfl)⟩
end

def yv (l : Nat) : Value := .func (.yield l) #[] #[]

def scY (l : Nat) (sc : SC) (p : Prop) : Prop :=
  match sc with
  | .v u => u = yv l ∧ p
  | _ => False

def yopG (S : Stat) (A : Kd) (l : Nat) (xs : List A.T) (st : St) (g : List A.T) (o : Oper) (k : List A.T → List (Nat × Option HE) → Prop) : Prop :=
  match o.op with
  | .call c => match c.callee with
    | .value f => oneC (ev S st 0 f) fun sc => scY l sc (optK (decArgs (dec1 S st.look fuel) A (evAll S st c.argTypes.toList c.args.toList)) fun p => chk (noLn st.look p.2 && noLn (st.upds (frz st.look p.2)).look (st.upds (frz st.look p.2)).dom) (∃ rest, xs = g ++ p.1 :: rest ∧ k (g ++ [p.1]) (frz st.look p.2)))
    | _ => False
  | _ => False

section
variable {P : Program} {glb : Nat → Option GV} {B0 : Nat → Prop} {We : World} {S : Stat}

theorem scY_get {l : Nat} {sc : SC} {p : Prop} (h : scY l sc p) : sc = .v (yv l) ∧ p := by
  unfold scY at h
  split at h
  · exact ⟨by rw [h.1], h.2⟩
  · exact h.elim

theorem run_yieldCall {a : Act} {W : World} {o : Oper} (cl : Call) (hop : o.op = .call cl) (f : Operand) (hcal : cl.callee = .value f) {l : Nat} (hf : a.eval f = yv l) :
    (execOp a.eval o).run P W = (Instr.yield l (cl.args.toList.map a.eval).toArray).run P W := by
  have hm : (cl.args.toList.map a.eval).toArray = cl.args.map a.eval := by apply Array.ext'; simp
  unfold execOp; rw [hop]
  simp only [resolve, hcal, hf, yv, Deferred.ofValue, Sem.run_bind, Sem.run_pure, Result.andThen_ok, invoke]
  rw [hm]
  simp

theorem yopG_ok {A : Kd} {T : Yt P A.T} (hS : StatOK P S) (hct : CtOK P glb S) (hg : S.glb = glb) (hvals : T.vals = (A.sem P).vals) (hgv : T.gv = true) (hB : ∀ k, ¬ B0 k) (isY : Nat → Bool) (fst : Nat → Nat) : YopOK glb T B0 We ⟨S, isY, yopG S A T.l T.xs, fst, true⟩ := by
  refine ⟨hgv.symm, fun st ρ a W g o k I E Wl h hln hj hy => ?_⟩
  have hy : yopG S A T.l T.xs st g o k := hy
  unfold yopG at hy
  split at hy
  case h_2 => exact hy.elim
  rename_i cl hop
  split at hy
  case h_2 => exact hy.elim
  rename_i f hcal
  obtain ⟨sc, h1, hsc⟩ := oneC_ok hy (ev_ok hS hg h.mt 0 f)
  obtain ⟨rfl, h2⟩ := scY_get h1
  obtain ⟨⟨x, ls⟩, hx, h3⟩ := optK_ok h2
  obtain ⟨hc, rest, hxs, hk⟩ := chk_iff.1 h3
  simp only [Bool.and_eq_true] at hc
  obtain ⟨hls, hln'⟩ := hc
  have hfv : a.eval f = yv T.l := hsc.1
  obtain ⟨m1, hsub⟩ := h.mt.frz ls hls
  have h' : ItOK glb T B0 We g false (st.upds (frz st.look ls)) ρ a W I E Wl := h.go m1 fun _ => rfl
  refine ⟨frz st.look ls, hln', h', ?_, fun c hc => by rw [hop] at hc; cases hc⟩
  have hv0 := decArgs_ok (Z := fun l => memL l ls) (dec1_ok h.mt hct fuel) A _ x ls _ hx (evAll_from hS hg h.mt cl.argTypes.toList cl.args.toList 0) (fun l hl => memL_mem hl)
  have hv : (A.sem P).vals (yVX true T.X T.W0 (yI true B0 (st.upds (frz st.look ls)) ρ (nowI I Wl W)) (nowI E Wl W) W) W x (cl.args.toList.map a.eval) := by
    refine (Kd.stands P A).vals (Evo.mono (fun k hk => hk.1) ?_) hv0
    rintro k ⟨hlt, ⟨_, ho | hb⟩ | hno⟩
    · exact hsub k ho.xs
    · exact absurd hb (hB k)
    · refine .inl ?_
      have hnE : ¬ nowI E Wl W k := fun hh => hno (.inl hh)
      have hkl : k < Wl.heap.size := by
        rcases Nat.lt_or_ge k Wl.heap.size with h1 | h1
        · exact h1
        · exact absurd (.inr ⟨h1, hlt⟩) hnE
      refine ⟨hkl, fun hi => hnE (.inl hi), ?_⟩
      by_cases h4 : T.W0.heap.size ≤ k
      · exact .inl h4
      · exact .inr (Classical.byContradiction fun h5 => hno (.inr ⟨by omega, h5⟩))
  have hj' : T.J g (yI true B0 (st.upds (frz st.look ls)) ρ (nowI I Wl W)) (nowI E Wl W) W := T.jt _ _ _ _ _ _ _ hj
    ⟨⟨rfl, rfl, rfl, Nat.le_refl _, fun _ _ _ _ => rfl, fun _ _ _ h => h, fun k hk => .inl hk.1⟩, fun _ h => h, fun _ h => .inl h⟩
  obtain ⟨fn, tmps, asg, body, hr, hround⟩ := T.yd g x rest (yI true B0 (st.upds (frz st.look ls)) ρ (nowI I Wl W)) (nowI E Wl W) W _ hxs hj' h.nowLow (fun k hk => h.ieNow k hk.1) h.nowSz (by rw [hvals, hgv]; exact hv)
  rw [hgv]
  refine .inl ⟨T.l, fn, tmps, asg, body, (run_yieldCall cl hop f hcal hfv).trans hr, (round_any hround).mono ?_⟩
  rintro e W' (⟨rfl, hj', hk'⟩ | ⟨rfl, hjx', hk'⟩)
  · exact ⟨true, _, _, nowI E Wl W, rfl, hk, fun _ => hj', fun h => (by cases h), fun _ h => h, fun k hk => h.ieNow k hk.1, fun _ h => h, fun _ h => .inl h, hk'⟩
  · exact ⟨false, _, _, nowI E Wl W, rfl, hk, fun h => (by cases h), fun _ => hjx', fun _ h => h, fun k hk => h.ieNow k hk.1, fun _ h => h, fun _ h => .inl h, hk'⟩

def vcIter {α : Type} (Y : YS α) (an : Nat → Items) (fn : Func) (c : Code) (C : Kd) (y : C.T) (l : Nat) (xs : List α) : Prop :=
  chk (Nat.ble (1 + C.ar) fn.ntmps) (vcY Y an c ⟨fn.ntmps, tmOf (.mk false [.v (yv l)] :: argsSV C y), fun _ => none, 0, []⟩ [] false (yFin Y.S fn.results.toList fun ob g s => cnd s True (g = xs)))

theorem seq_of {A C : Kd} {f : FuncId} {fn : Func} {c : Code} (hf : P.funcs[f]? = some fn) (hname : (fn.name == "runtime.NumGoroutine") = false) (hb : fn.body = some c) (an : Nat → Items) (Yl : Nat → YS A.T) (hS : ∀ l, StatOK P (Yl l).S) (hct : ∀ l, CtOK P glb (Yl l).S) (hg : ∀ l, (Yl l).S.glb = glb)
    {xs : List A.T} {y : C.T} (hyop : ∀ (T : Yt P A.T), T.vals = (A.sem P).vals → T.xs = xs → T.gv = A.giv → ∀ B0 We, (∀ k, ¬ B0 k) → YopOK glb T B0 We (Yl T.l)) (hvc : ∀ l, vcIter (Yl l) an fn c C y l xs) {X : Nat → Prop} {W : World} {cs : List Value} (hX : ∀ k, X k → k < W.heap.size) (hglb : GlbOK P glb X W) (hcs : (C.sem P).vals X W y cs) :
    SeqRun P A.giv (A.sem P).vals X W xs (.func (.func f) #[] cs.toArray) := by
  refine ⟨f, #[], cs.toArray, rfl, enters_of hf hname hb, fun n l J Jx hJt hJx hY h0 => ?_⟩
  obtain ⟨hn, hvc⟩ := chk_iff.1 (hvc l)
  have hn := Nat.le_of_ble_eq_true hn
  let T : Yt P A.T := ⟨A.giv, (A.sem P).vals, X, W, n, l, xs, J, Jx, hJt, hJx, hY⟩
  obtain ⟨l2, g2⟩ := RepV.of_vals (P := P) (ρ := fun _ => none) (X := X) (W := W) C hcs
  have hl2 : cs.length = C.ar := by rw [← l2, argsSV_length]
  have hxx : ∀ k, yX T (fun _ => False) W k → X k := fun k hk => hk.2.2.resolve_left (Nat.not_le_of_lt hk.1)
  have start : ItOK glb T (fun _ => False) W [] false ⟨fn.ntmps, tmOf (.mk false [.v (yv l)] :: argsSV C y), fun _ => none, 0, []⟩ (fun _ => none) { tmps := (yv l :: cs).toArray ++ Array.replicate (fn.ntmps - (yv l :: cs).toArray.size) undef, defers := [] } W (fun _ => False) (fun _ => False) W := by
    refine ⟨fun _ => h0, fun h => (by cases h), fun _ h => h, fun _ h => h, fun _ => rfl, fun _ h => h.elim, fun _ h => h.elim, Nat.le_refl _, ⟨rfl, rfl, rfl, Nat.le_refl _, fun _ _ _ => rfl, fun _ _ _ _ => rfl, fun _ _ _ h => h⟩, ?_⟩
    refine mt_start (by simp; omega) (by simp [l2]) (fun i v hv => ?_) (fun l he q h => (by cases h)) (fun k hk => hk.1) (fun k hk => hk.1) (hglb.evo (Evo.mono (fun k hk => hk.1) hxx)) (fun l v h => (by cases h)) (fun l he q h => (by cases h))
    cases i with
    | zero => cases hv; exact ⟨_, rfl, rfl, rfl⟩
    | succ i => exact (g2 i v (by simpa using hv)).mono (Lab.le_refl _) (Evo.mono (fun k hk => hk.1) hxx)
  have key := y_run (n := n) (hS l) (hct l) (hg l) (hyop T rfl rfl rfl _ W (fun _ h => h)) an hf hb (vs := yv l :: cs) start _ hvc
  have e : (yv l :: cs).toArray = #[] ++ #[.func (.yield l) #[] #[]] ++ cs.toArray := by simp [yv]
  rw [e] at key
  refine key.mono ?_
  rintro en W' ⟨ob, g, s, I', E', rfl, hk, hj, hjx, _⟩
  refine ⟨⟨_, rfl⟩, I', E', ?_⟩
  cases s with
  | true => exact .inr (hjx rfl)
  | false =>
    have hk : g = xs := hk
    subst hk
    exact .inl (hj rfl)
end
end Go.GX
namespace Go.Proofs.Tq
open Go Go.GX
variable [Inhabited BaseD]
def s97_ct : GX.Stat := S1 [(99, f99_ct)] [(98, f98_ct)] [] []
def f97_an : Nat → Items := anL [(0, [.t 8 k3]), (2, [.t 16 k3, .drow 303 159 (.pair k48 k51) 5001 false 3 k3])]
def y97_ct (l : Nat) (xs : List Heap) : YS Heap := ⟨s97_ct, fun lab => Nat.beq lab 1102, yopG s97_ct k159 l xs, fun _ => 0, true⟩
def f97v_ct (l : Nat) (xs : List Heap) (cuts : List Cut) (f : Rule) : Prop := vcIter (y97_ct l xs) f97_an Try.f97 (bodyOf Try.f97) (arg2 (.ptr 48 k48) (.ptr 51 k51)) (f, cuts, ()) l xs
end Go.Proofs.Tq
set_option linter.unusedVariables false
set_option maxRecDepth 100000
namespace Go.Proofs.Tq
open Go Go.GX Go.Proofs

def V97 (l : Nat) (xs : List Heap) (cuts : List Cut) (f : Rule) : Prop :=
  ∃ (I : List Heap → Int → Prop),
    ∃ (μ : Int → Nat),
      I ([] : List Heap) (0 : Int) ∧
        ∀ (g : List Heap) (x : Int),
          I g x →
            cnd (decide (x < (4 : Int)))
              (List.length cuts ≤ (9223372036854775807 : Nat) →
                ∃ (I_1 : List Heap → Int → ((Int × Int × Int) × List (Int × Int × Int)) × List Int → Prop),
                  ∃ (μ_1 : Int → ((Int × Int × Int) × List (Int × Int × Int)) × List Int → Nat),
                    I_1 g (0 : Int) (((Prod.fst f, Prod.fst (Prod.snd f), Prod.snd (Prod.snd f)), cuts), ([] : List Int)) ∧
                      ∀ (g : List Heap) (x_1 : Int) (x_2 : ((Int × Int × Int) × List (Int × Int × Int)) × List Int),
                        I_1 g x_1 x_2 →
                          cnd (decide (x_1 < (↑(List.length cuts) : Int)))
                            ((0 : Int) ≤ x_1 ∧
                              x_1 < (↑(List.length cuts) : Int) ∧
                                cnd (Prod.fst (List.getD cuts (Int.toNat x_1) ((0 : Int), (0 : Int), (0 : Int))) == x)
                                  ((List.length (Prod.snd x_2) + List.length (x_1 :: ([] : List Int))) * (8 : Nat) ≤ (140737488355328 : Nat) ∧
                                    I_1 g (IntKind.wrap IntKind.i64 (x_1 + (1 : Int)))
                                        (((Prod.fst (Prod.fst (Prod.fst x_2)), Prod.fst (Prod.snd (Prod.fst (Prod.fst x_2))),
                                              Prod.snd (Prod.snd (Prod.fst (Prod.fst x_2)))),
                                            Prod.snd (Prod.fst x_2)),
                                          Prod.snd x_2 ++ x_1 :: ([] : List Int)) ∧
                                      μ_1 (IntKind.wrap IntKind.i64 (x_1 + (1 : Int)))
                                          (((Prod.fst (Prod.fst (Prod.fst x_2)), Prod.fst (Prod.snd (Prod.fst (Prod.fst x_2))),
                                                Prod.snd (Prod.snd (Prod.fst (Prod.fst x_2)))),
                                              Prod.snd (Prod.fst x_2)),
                                            Prod.snd x_2 ++ x_1 :: ([] : List Int)) <
                                        μ_1 x_1 x_2)
                                  (I_1 g (IntKind.wrap IntKind.i64 (x_1 + (1 : Int)))
                                      (((Prod.fst (Prod.fst (Prod.fst x_2)), Prod.fst (Prod.snd (Prod.fst (Prod.fst x_2))),
                                            Prod.snd (Prod.snd (Prod.fst (Prod.fst x_2)))),
                                          Prod.snd (Prod.fst x_2)),
                                        Prod.snd x_2) ∧
                                    μ_1 (IntKind.wrap IntKind.i64 (x_1 + (1 : Int)))
                                        (((Prod.fst (Prod.fst (Prod.fst x_2)), Prod.fst (Prod.snd (Prod.fst (Prod.fst x_2))),
                                              Prod.snd (Prod.snd (Prod.fst (Prod.fst x_2)))),
                                            Prod.snd (Prod.fst x_2)),
                                          Prod.snd x_2) <
                                      μ_1 x_1 x_2))
                            (f98_wp (Prod.snd x_2) (fun (x : Int × Int) (Q : Int → Prop) ↦ f99_wp x (cuts, ()) fun (r : Int) ↦ Q r, ()) ()
                              fun (r : Unit) (zs : List Int) ↦
                              Value.func (Fn.yield l) (List.toArray ([] : List Value)) (List.toArray ([] : List Value)) =
                                  Value.func (Fn.yield l) (List.toArray ([] : List Value)) (List.toArray ([] : List Value)) ∧
                                ∃ (rest : List ((Int × Int × Int) × List (Int × Int × Int) × List Int)),
                                  xs =
                                      g ++
                                        ((Prod.fst (Prod.fst (Prod.fst x_2)), Prod.fst (Prod.snd (Prod.fst (Prod.fst x_2))),
                                              Prod.snd (Prod.snd (Prod.fst (Prod.fst x_2)))),
                                            Prod.snd (Prod.fst x_2), zs) ::
                                          rest ∧
                                    (I
                                          (g ++
                                            ((Prod.fst (Prod.fst (Prod.fst x_2)), Prod.fst (Prod.snd (Prod.fst (Prod.fst x_2))),
                                                  Prod.snd (Prod.snd (Prod.fst (Prod.fst x_2)))),
                                                Prod.snd (Prod.fst x_2), zs) ::
                                              ([] : List ((Int × Int × Int) × List (Int × Int × Int) × List Int)))
                                          (IntKind.wrap IntKind.i64 (x + (1 : Int))) ∧
                                        μ (IntKind.wrap IntKind.i64 (x + (1 : Int))) < μ x) ∧
                                      True))
              (g = xs)
theorem V97E (l : Nat) (xs : List Heap) (cuts : List Cut) (f : Rule) : V97 l xs cuts f = (f97v_ct l xs cuts f) := by kernel_rfl

end Go.Proofs.Tq
set_option linter.unusedVariables false
set_option maxRecDepth 100000
namespace Go.Proofs.Tq
open Go Go.GX Go.Proofs
theorem ruleB_iff {f : Rule} : ruleB f = true ↔ (2 ≤ f.1 ∧ f.1 ≤ 12) ∧ (0 ≤ f.2.1 ∧ f.2.1 ≤ 100) ∧ (0 ≤ f.2.2 ∧ f.2.2 ≤ 1000) := by
  simp only [ruleB, inB, Bool.and_eq_true, decide_eq_true_eq, and_assoc]
theorem p64 {h : Heap} {Q : List (List Int) → Prop} (hh : f64_wp h () Q) : V64 h Q := by
  obtain ⟨ho, hq⟩ := hh
  obtain ⟨r1, r2, r3⟩ := ruleB_iff.1 ho.f
  have hn := ho.n
  have hC : ((h.1.1.toNat : Nat) : Int) = h.1.1 := by omega
  refine ⟨fun x acc => ∃ k : Nat, k ≤ h.2.2.length ∧ x = k ∧ acc.length ≤ k ∧ acc ++ fansN h (h.2.2.length - k) (h.2.2.drop k) = fansH h, fun x _ => (h.2.2.length - x).toNat, ⟨0, Nat.zero_le _, rfl, Nat.le_refl _, rfl⟩, ?_⟩
  rintro _ acc ⟨k, hk, rfl, hacc, hinv⟩ hl
  have w1 : IntKind.wrap .i64 ((k : Int) + h.1.1) = k + h.1.1 := wrapS (by omega) (by omega)
  have w2 : IntKind.wrap .i64 (h.1.1 - 1) = h.1.1 - 1 := wrapS (by omega) (by omega)
  rw [w1]
  refine cnd_iff.2 ⟨fun e => ?_, fun e => ?_⟩
  · have e : (k : Int) + h.1.1 ≤ (h.2.2.length : Int) := of_decide_eq_true e
    have hsl : List.drop (Int.toNat (k : Int)) (List.take (Int.toNat ((k : Int) + h.1.1)) h.2.2) = (h.2.2.drop k).take h.1.1.toNat := by
      rw [List.drop_take, show Int.toNat ((k : Int) + h.1.1) - Int.toNat (k : Int) = h.1.1.toNat by omega]; rfl
    rw [hsl, w2]
    obtain ⟨some, hs⟩ : ∃ s, s = (h.2.2.drop k).take h.1.1.toNat := ⟨_, rfl⟩
    rw [← hs]
    have hsn : some.length = h.1.1.toNat := by rw [hs, List.length_take, List.length_drop]; omega
    have hmem : ∀ i, i ∈ some → 0 ≤ i ∧ i < (h.2.1.length : Int) := fun i hi => ho.i i (List.mem_of_mem_drop (List.mem_of_mem_take (hs ▸ hi)))
    have i0 := hmem _ (getD_mem (d := (0 : Int)) (show 0 < some.length by omega))
    have i1 := hmem _ (getD_mem (d := (0 : Int)) (show (h.1.1 - 1).toNat < some.length by omega))
    refine ⟨by omega, by omega, by omega, by omega, by omega, i0.1, i0.2, by omega, by omega, i1.1, i1.2, ?_⟩
    have t0 := (cutB_iff.1 (ho.c _ (getD_mem (d := c0) (show (some.getD 0 0).toNat < h.2.1.length by omega)))).2.2
    have t1 := (cutB_iff.1 (ho.c _ (getD_mem (d := c0) (show (some.getD (h.1.1 - 1).toNat 0).toNat < h.2.1.length by omega)))).2.2
    obtain ⟨a, ha⟩ : ∃ a, a = (h.2.1.getD (some.getD (h.1.1 - 1).toNat 0).toNat c0).2.2 := ⟨_, rfl⟩
    obtain ⟨b, hb⟩ : ∃ b, b = (h.2.1.getD (some.getD 0 0).toNat c0).2.2 := ⟨_, rfl⟩
    rw [← hb] at t0
    rw [← ha] at t1
    have hgo : goB h some = decide (a - b + 2 * h.1.2.1 ≤ h.1.2.2) := by unfold goB; rw [← ha, ← hb]
    have hstep : fansN h (h.2.2.length - k) (h.2.2.drop k) = if goB h some then insSort (placeC h.2.1) some :: fansN h (h.2.2.length - k - 1) ((h.2.2.drop k).drop h.1.1.toNat) else fansN h (h.2.2.length - k - 1) ((h.2.2.drop k).drop 1) := by
      obtain ⟨m, hm⟩ : ∃ m, h.2.2.length - k = m + 1 := ⟨h.2.2.length - k - 1, by omega⟩
      rw [hm]
      conv => lhs; unfold fansN
      rw [if_neg (by rw [List.length_drop]; omega), ← hs]; rfl
    rw [hstep] at hinv
    have hdec : decide (IntKind.wrap .i64 (IntKind.wrap .i64 (a - b) + IntKind.wrap .i64 (2 * h.1.2.1)) > h.1.2.2) = !goB h some := by
      rw [wrapS (x := a - b) (by omega) (by omega), wrapS (x := 2 * h.1.2.1) (by omega) (by omega), wrapS (by omega) (by omega), hgo]
      by_cases hd : a - b + 2 * h.1.2.1 ≤ h.1.2.2
      · rw [decide_eq_true hd, decide_eq_false (by omega)]; rfl
      · rw [decide_eq_false hd, decide_eq_true (by omega)]; rfl
    show cnd (decide (IntKind.wrap .i64 (IntKind.wrap .i64 ((h.2.1.getD (some.getD (h.1.1 - 1).toNat 0).toNat c0).2.2 - (h.2.1.getD (some.getD 0 0).toNat c0).2.2) + IntKind.wrap .i64 (2 * h.1.2.1)) > h.1.2.2)) _ _
    rw [← ha, ← hb, hdec]
    refine cnd_iff.2 ⟨fun g => ?_, fun g => ⟨by show some.length ≤ 1000000; omega, ?_⟩⟩
    · have g : goB h some = false := by simpa using g
      rw [if_neg (by rw [g]; simp), List.drop_drop] at hinv
      rw [wrapS (by omega) (by omega)]
      exact ⟨⟨k + 1, by omega, by push_cast; rfl, by omega, hinv⟩, by show ((h.2.2.length : Int) - ((k : Int) + 1)).toNat < ((h.2.2.length : Int) - (k : Int)).toNat; omega⟩
    · have g : goB h some = true := by simpa using g
      rw [if_pos g, List.drop_drop] at hinv
      refine ⟨placeC h.2.1, fun x hx y hy Q hQ => ⟨⟨(hmem x hx).1, (hmem x hx).2, (hmem y hy).1, (hmem y hy).2⟩, hQ⟩, by omega, ?_⟩
      refine ⟨by simp only [List.length_cons, List.length_nil]; omega, ⟨k + h.1.1.toNat, by omega, by push_cast; omega, by simp only [List.length_append, List.length_cons, List.length_nil]; omega, ?_⟩, by show ((h.2.2.length : Int) - ((k : Int) + h.1.1)).toNat < ((h.2.2.length : Int) - (k : Int)).toNat; omega⟩
      rw [List.append_assoc, ← hinv]
      show acc ++ (insSort (placeC h.2.1) some :: _) = acc ++ (insSort (placeC h.2.1) some :: _)
      rw [fans_fuel h (by omega) (h.2.2.length - (k + h.1.1.toNat)) (h.2.2.length - k - 1) (h.2.2.drop (k + h.1.1.toNat)) (by rw [List.length_drop]; omega) (by rw [List.length_drop]; omega)]
      rfl
  · have e : ¬ (k : Int) + h.1.1 ≤ (h.2.2.length : Int) := of_decide_eq_false e
    have : fansN h (h.2.2.length - k) (h.2.2.drop k) = [] := by
      cases hm : h.2.2.length - k with
      | zero => rfl
      | succ m =>
        unfold fansN
        rw [if_pos (by rw [List.length_drop]; omega)]
    rw [this, List.append_nil] at hinv
    rw [hinv]; exact hq
theorem p30 {l : List Cut} {f : Rule} {Q : List (List Int) → Prop} (h : f30_wp (l, f, ()) () Q) : V30 l f Q := by
  obtain ⟨⟨ho, hf⟩, h⟩ := h
  have ho : CutsOK l := ho
  have hf : ruleB f = true := hf
  have h : Q (fansC l f) := h
  refine ⟨ho, ?_⟩
  refine ⟨fun pre s => s.1 = (pre.map fansH).flatten ∧ s.1.length ≤ 24 * pre.length, ⟨rfl, Nat.zero_le _⟩, fun pre x rest hr s hI => ?_, fun s hI => ?_⟩
  · have hr : heapsF l f = pre ++ x :: rest := hr
    have hx : x ∈ heapsF l f := by rw [hr]; simp
    obtain ⟨t, ht, rfl⟩ := List.mem_map.1 hx
    have hl : pre.length + 1 ≤ 4 := by
      have := congrArg List.length hr
      simp only [heapsF, List.length_map, List.length_range, List.length_append, List.length_cons] at this
      omega
    have hok := heap_ok ho hf (t : Int)
    refine ⟨fansH (heapF l f t), ⟨hok, rfl⟩, ?_⟩
    obtain ⟨r1, _, _⟩ := ruleB_iff.1 hf
    have hlen : (fansH (heapF l f t)).length ≤ 24 := by
      have h1 := fans_len (heapF l f t) (by show 1 ≤ f.1; omega) (heapF l f t).2.2.length (heapF l f t).2.2
      have h2 := hok.n
      have h3 : (fansH (heapF l f t)).length * 1 ≤ (fansH (heapF l f t)).length * (heapF l f t).1.1.toNat := Nat.mul_le_mul_left _ (by show 1 ≤ f.1.toNat; omega)
      unfold fansH at h3 ⊢
      omega
    obtain ⟨h1, h2⟩ := hI
    refine ⟨by omega, ?_, ?_⟩
    · show s.1 ++ fansH (heapF l f t) = ((pre ++ [heapF l f t]).map fansH).flatten
      rw [h1, List.map_append, List.flatten_append]; simp
    · show (s.1 ++ fansH (heapF l f t)).length ≤ 24 * (pre ++ [heapF l f t]).length
      rw [List.length_append, List.length_append, List.length_cons, List.length_nil]; omega
  · rw [show s.1 = fansC l f from hI.1]; exact h
theorem openC_zero {l : List Cut} {f : Rule} : openC l f = 0 ↔ CutsOK l ∧ ruleB f = true := by
  unfold openC
  constructor
  · intro h
    split at h
    · omega
    · split at h
      · omega
      · split at h
        · omega
        · split at h
          · rename_i h1 h2 h3 h4
            refine ⟨⟨by omega, fun c hc => ?_, by simpa [twiceB] using h3⟩, h4⟩
            have h2 : l.any (fun c => !cutB c) = false := by simpa using h2
            have := List.any_eq_false.1 h2 c hc
            simpa using this
          · omega
  · rintro ⟨⟨h1, h2, h3⟩, h4⟩
    rw [if_neg (by omega), if_neg ?_, if_neg (by simpa [twiceB] using h3), if_pos h4]
    intro h
    obtain ⟨c, hc, hb⟩ := List.any_eq_true.1 h
    rw [h2 c hc] at hb; cases hb
theorem p12 {l : List Cut} {f : Rule} {Q : Int × Int × Unit → Prop} (h : f12_wp (l, f, ()) () Q) : V12 l f Q := by
  have h : Q (mostC l f) := h
  unfold mostC at h
  show cnd (openC l f != 0) (Q (0, openC l f, ())) _
  refine cnd_iff.2 ⟨fun e => ?_, fun e => ?_⟩
  · have e : openC l f ≠ 0 := by simpa using e
    rw [if_neg e] at h; exact h
  · have e : openC l f = 0 := by simpa using e
    rw [if_pos e] at h
    exact ⟨openC_zero.1 e, fun _ => h⟩

theorem nums_take (l : List Cut) (t : Int) (k : Nat) : (((List.range (k + 1)).map fun (i : Nat) => (i : Int)).filter fun i => (l.getD i.toNat c0).1 == t) = (((List.range k).map fun (i : Nat) => (i : Int)).filter fun i => (l.getD i.toNat c0).1 == t) ++ if (l.getD k c0).1 == t then [(k : Int)] else [] := by
  rw [List.range_succ, List.map_append, List.filter_append]
  congr 1
  simp only [List.map_cons, List.map_nil, List.filter_cons, List.filter_nil]
  rfl
theorem p97 {l : Nat} {cuts : List Cut} {f : Rule} (ho : CutsOK cuts) : V97 l (heapsF cuts f) cuts f := by
  refine ⟨fun g x => ∃ t : Nat, t ≤ 4 ∧ x = t ∧ g = (heapsF cuts f).take t, fun x => (4 - x).toNat, ⟨0, by omega, rfl, rfl⟩, ?_⟩
  rintro _ _ ⟨t, ht, rfl, rfl⟩
  refine cnd_iff.2 ⟨fun e hl => ?_, fun e => ?_⟩
  · have e : (t : Int) < 4 := of_decide_eq_true e
    refine ⟨fun g x s => ∃ k : Nat, k ≤ cuts.length ∧ x = k ∧ g = (heapsF cuts f).take t ∧ s = ((f, cuts), ((List.range k).map fun (i : Nat) => (i : Int)).filter fun i => (cuts.getD i.toNat c0).1 == (t : Int)), fun x _ => (cuts.length - x).toNat, ⟨0, Nat.zero_le _, rfl, rfl, rfl⟩, ?_⟩
    rintro _ _ _ ⟨k, hk, rfl, rfl, rfl⟩
    refine cnd_iff.2 ⟨fun e2 => ?_, fun e2 => ?_⟩
    · have e2 : (k : Int) < cuts.length := of_decide_eq_true e2
      have hk' : k < cuts.length := by omega
      rw [wrapS (x := (k : Int) + 1) (by omega) (by omega)]
      have hst := nums_take cuts (t : Int) k
      have hlen : ((((List.range k).map fun (i : Nat) => (i : Int)).filter fun i => (cuts.getD i.toNat c0).1 == (t : Int)).length) ≤ 24 := by
        have h1 := List.length_filter_le (fun i : Int => (cuts.getD i.toNat c0).1 == (t : Int)) ((List.range k).map fun (i : Nat) => (i : Int))
        rw [List.length_map, List.length_range] at h1
        have := ho.n
        omega
      refine ⟨by omega, by omega, cnd_iff.2 ⟨fun c => ?_, fun c => ?_⟩⟩
      · have c : ((cuts.getD k c0).1 == (t : Int)) = true := c
        rw [if_pos c] at hst
        exact ⟨by simp only [List.length_cons, List.length_nil]; omega, ⟨k + 1, by omega, by push_cast; rfl, rfl, by rw [hst]⟩, by show ((cuts.length : Int) - ((k : Int) + 1)).toNat < ((cuts.length : Int) - (k : Int)).toNat; omega⟩
      · have c : ((cuts.getD k c0).1 == (t : Int)) = false := c
        rw [if_neg (by rw [c]; simp), List.append_nil] at hst
        exact ⟨⟨k + 1, by omega, by push_cast; rfl, rfl, by rw [hst]⟩, by show ((cuts.length : Int) - ((k : Int) + 1)).toNat < ((cuts.length : Int) - (k : Int)).toNat; omega⟩
    · have e2 : ¬ (k : Int) < cuts.length := of_decide_eq_false e2
      have : k = cuts.length := by omega
      subst this
      refine ⟨thickC cuts, fun x hx y hy Q hQ => ?_, ?_, rfl, (heapsF cuts f).drop (t + 1), ?_, ⟨⟨t + 1, by omega, by rw [wrapS (by omega) (by omega)]; push_cast; rfl, ?_⟩, by rw [wrapS (by omega) (by omega)]; show (4 - ((t : Int) + 1)).toNat < (4 - (t : Int)).toNat; omega⟩, trivial⟩
      · obtain ⟨i, hi, rfl, _⟩ := nums_mem.1 (show x ∈ numsF cuts t from hx)
        obtain ⟨j, hj, rfl, _⟩ := nums_mem.1 (show y ∈ numsF cuts t from hy)
        exact ⟨⟨by show (0 : Int) ≤ i; omega, by show (i : Int) < (cuts.length : Int); omega, by show (0 : Int) ≤ j; omega, by show (j : Int) < (cuts.length : Int); omega⟩, hQ⟩
      · exact nums_len ho t
      · show heapsF cuts f = (heapsF cuts f).take t ++ heapF cuts f t :: (heapsF cuts f).drop (t + 1)
        have : t = 0 ∨ t = 1 ∨ t = 2 ∨ t = 3 := by omega
        rcases this with rfl | rfl | rfl | rfl <;> rfl
      · show (heapsF cuts f).take t ++ [heapF cuts f t] = (heapsF cuts f).take (t + 1)
        have : t = 0 ∨ t = 1 ∨ t = 2 ∨ t = 3 := by omega
        rcases this with rfl | rfl | rfl | rfl <;> rfl
  · have e : ¬ (t : Int) < 4 := of_decide_eq_false e
    have : t = 4 := by omega
    subst this
    rfl
end Go.Proofs.Tq
set_option maxRecDepth 100000
set_option maxHeartbeats 2000000
namespace Go.Proofs.Tq
open Go Go.GX Go.Proofs
variable [Inhabited BaseD]
theorem ok104 : CallsOK Try.prog (assoc glT) 104 f104_ct :=
  callsOK_E (env (ct := []) (ios := []) (hos := []) (lits := []) AllOK.nil AllW.nil AllH.nil) idx_an Try.func104 (by kernel_rfl) (by kernel_rfl) f104_ct fun ⟨xs, f, _⟩ _ Q h => (v104 xs f Q).mp (p104 h)
theorem ok65 : CallsOK Try.prog (assoc glT) 65 f65_ct :=
  callsOK_E (env (ct := [(104, f104_ct)]) (ios := []) (hos := []) (lits := []) (AllOK.cons ok104 AllOK.nil) AllW.nil AllH.nil) no_an Try.func65 (by kernel_rfl) (by kernel_rfl) f65_ct fun ⟨xs, f, _⟩ _ Q h => (v65 xs f Q).mp (p65 h)
theorem ok101 : CallsOK Try.prog (assoc glT) 101 f101_ct :=
  callsOK_E (env (ct := []) (ios := []) (hos := []) (lits := [300]) AllOK.nil AllW.nil AllH.nil) no_an Try.func101 (by kernel_rfl) (by kernel_rfl) f101_ct fun xs _ Q h => (v101 xs Q).mp (p101 h)
theorem ok126 : CallsOK Try.prog (assoc glT) 126 f126_ct :=
  callsOK_E (env (ct := []) (ios := []) (hos := []) (lits := []) AllOK.nil AllW.nil AllH.nil) no_an Try.func126 (by kernel_rfl) (by kernel_rfl) f126_ct fun n _ Q h => (v126 n Q).mp (p126 h)
theorem ok100 : CallsOK Try.prog (assoc glT) 100 f100_ct :=
  callsOK_E (env (ct := [(126, f126_ct)]) (ios := []) (hos := []) (lits := []) (AllOK.cons ok126 AllOK.nil) AllW.nil AllH.nil) no_an Try.func100 (by kernel_rfl) (by kernel_rfl) f100_ct fun ⟨a, b, _⟩ _ Q h => (v100 a b Q).mp (p100 h)
theorem ok146 : CallsOK Try.prog (assoc glT) 146 f146_ct :=
  callsOK_E (env (ct := []) (ios := []) (hos := []) (lits := []) AllOK.nil AllW.nil AllH.nil) f146_an Try.func146 (by kernel_rfl) (by kernel_rfl) f146_ct fun n _ Q h => (v146 n Q).mp (p146 h)
theorem ok114 : CallsOK Try.prog (assoc glT) 114 f114_ct :=
  callsOK_E (env (ct := [(146, f146_ct)]) (ios := []) (hos := []) (lits := []) (AllOK.cons ok146 AllOK.nil) AllW.nil AllH.nil) no_an Try.func114 (by kernel_rfl) (by kernel_rfl) f114_ct fun n _ Q h => (v114 n Q).mp (p114 h)
theorem ok148 : CallsW Try.prog (assoc glT) 148 f148_ct :=
  callsW_E (env (ct := []) (ios := []) (hos := []) (lits := []) AllOK.nil AllW.nil AllH.nil) ins3_an Try.func148 (by kernel_rfl) (by kernel_rfl) rfl f148_ct fun ys ⟨a, b, f, _⟩ _ Q h => (v148 ys a b f Q).mp (p148 h)
theorem ok125 : CallsW Try.prog (assoc glT) 125 f125_ct :=
  callsW_E (env (ct := []) (ios := [(148, f148_ct)]) (hos := []) (lits := []) AllOK.nil (AllW.cons ok148 AllW.nil) AllH.nil) f125_an Try.func125 (by kernel_rfl) (by kernel_rfl) rfl f125_ct fun ys ⟨n, f, _⟩ _ Q h => (v125 ys n f Q).mp (p125 h)
theorem ok98 : CallsW Try.prog (assoc glT) 98 f98_ct :=
  callsW_E (env (ct := []) (ios := [(125, f125_ct)]) (hos := []) (lits := []) AllOK.nil (AllW.cons ok125 AllW.nil) AllH.nil) no_an Try.func98 (by kernel_rfl) (by kernel_rfl) rfl f98_ct fun ys ⟨f, _⟩ _ Q h => (v98 ys f Q).mp (p98 h)
theorem ok127 : CallsW Try.prog (assoc glT) 127 f127_ct :=
  callsW_E (env (ct := []) (ios := [(148, f148_ct)]) (hos := []) (lits := []) AllOK.nil (AllW.cons ok148 AllW.nil) AllH.nil) f127_an Try.func127 (by kernel_rfl) (by kernel_rfl) rfl f127_ct fun ys ⟨a, b, l, f, _⟩ _ Q h => (v127 ys a b l f Q).mp (p127 h)
theorem ok102 : CallsW Try.prog (assoc glT) 102 f102_ct :=
  callsW_E (env (ct := [(114, f114_ct)]) (ios := [(127, f127_ct)]) (hos := []) (lits := []) (AllOK.cons ok114 AllOK.nil) (AllW.cons ok127 AllW.nil) AllH.nil) no_an Try.func102 (by kernel_rfl) (by kernel_rfl) rfl f102_ct fun ys ⟨f, _⟩ _ Q h => (v102 ys f Q).mp (p102 h)
theorem ok67 : CallsOK Try.prog (assoc glT) 67 f67_ct :=
  callsOK_E (env (ct := []) (ios := []) (hos := []) (lits := []) AllOK.nil AllW.nil AllH.nil) no_an Try.func67 (by kernel_rfl) (by kernel_rfl) f67_ct fun n ⟨lo, hi, _⟩ Q h => (v67 n lo hi Q).mp (p67 h)
theorem ok37 : CallsOK Try.prog (assoc glT) 37 f37_ct :=
  callsOK_E (env (ct := [(65, f65_ct), (67, f67_ct)]) (ios := []) (hos := []) (lits := []) (AllOK.cons ok65 (AllOK.cons ok67 AllOK.nil)) AllW.nil AllH.nil) no_an Try.func37 (by kernel_rfl) (by kernel_rfl) f37_ct fun ⟨lo, hi, l, _⟩ _ Q h => (v37 lo hi l Q).mp (p37 h)
theorem ok60 : CallsOK Try.prog (assoc glT) 60 f60_ct :=
  callsOK_E (env (ct := [(37, f37_ct)]) (ios := []) (hos := []) (lits := []) (AllOK.cons ok37 AllOK.nil) AllW.nil AllH.nil) no_an Try.func60 (by kernel_rfl) (by kernel_rfl) f60_ct fun c _ Q h => (v60 c Q).mp (p60 h)
theorem ok96 : CallsOK Try.prog (assoc glT) 96 f96_ct :=
  callsOK_E (env (ct := []) (ios := []) (hos := []) (lits := []) AllOK.nil AllW.nil AllH.nil) idx_an Try.func96 (by kernel_rfl) (by kernel_rfl) f96_ct fun ⟨xs, f, _⟩ _ Q h => (v96 xs f Q).mp (p96 h)
theorem ok61 : CallsOK Try.prog (assoc glT) 61 f61_ct :=
  callsOK_E (env (ct := [(96, f96_ct)]) (ios := []) (hos := []) (lits := []) (AllOK.cons ok96 AllOK.nil) AllW.nil AllH.nil) no_an Try.func61 (by kernel_rfl) (by kernel_rfl) f61_ct fun ⟨xs, f, _⟩ _ Q h => (v61 xs f Q).mp (p61 h)
theorem ok62 : CallsOK Try.prog (assoc glT) 62 f62_ct :=
  callsOK_E (env (ct := []) (ios := []) (hos := []) (lits := []) AllOK.nil AllW.nil AllH.nil) no_an Try.func62 (by kernel_rfl) (by kernel_rfl) f62_ct fun s _ Q h => (v62 s Q).mp (p62 h)
theorem ok29 : CallsOK Try.prog (assoc glT) 29 f29_ct :=
  callsOK_E (env (ct := [(37, f37_ct), (60, f60_ct), (61, f61_ct), (62, f62_ct)]) (ios := []) (hos := []) (lits := []) (AllOK.cons ok37 (AllOK.cons ok60 (AllOK.cons ok61 (AllOK.cons ok62 AllOK.nil)))) AllW.nil AllH.nil) f29_an Try.func29 (by kernel_rfl) (by kernel_rfl) f29_ct fun ⟨l, f, _⟩ _ Q h => (v29 l f Q).mp (p29 h)
theorem ok99 : CallsOK Try.prog (assoc glT) 99 f99_ct :=
  callsOK_E (env (ct := [(100, f100_ct)]) (ios := []) (hos := []) (lits := []) (AllOK.cons ok100 AllOK.nil) AllW.nil AllH.nil) no_an Try.func99 (by kernel_rfl) (by kernel_rfl) f99_ct fun ab ⟨l, _⟩ Q h => (v99 ab l Q).mp (p99 h)
theorem ok103 : CallsOK Try.prog (assoc glT) 103 f103_ct :=
  callsOK_E (env (ct := [(100, f100_ct)]) (ios := []) (hos := []) (lits := []) (AllOK.cons ok100 AllOK.nil) AllW.nil AllH.nil) no_an Try.func103 (by kernel_rfl) (by kernel_rfl) f103_ct fun ab ⟨hp, _⟩ Q h => (v103 ab hp Q).mp (p103 h)
end Go.Proofs.Tq
set_option linter.unusedVariables false
set_option maxRecDepth 100000
namespace Go.Proofs.Tq
open Go Go.GX Go.Proofs Go.RowKit Go.Shelf
variable [Inhabited BaseD]
theorem mk63 : Enters Try.prog 63 ∧ ∀ (W : World) (A : Option Addr) (n c : Nat) (arr : Array Value), Calls Try.prog 63 #[.slice A n c, .agg arr] W fun e w' => ∃ b1 b2, e = .returned (.func (.func 97) #[] #[.pointer (some ⟨b2, 0, none⟩), .pointer (some ⟨b1, 0, none⟩)]) ∧
    W.heap.size ≤ b1 ∧ W.heap.size ≤ b2 ∧ w'.heap[b1]? = some (.cells #[.slice A n c] 51 (0, 0)) ∧ w'.heap[b2]? = some (.cells arr 48 (0, 0)) ∧ Below W.heap.size W w' := by
  refine ⟨enters_of Try.func63 (by kernel_rfl) rfl, fun W A n c arr => ?_⟩
  go_enter Try.func63, Try.ntmps63
  go_wp2
  go_ret
  exact ⟨W.heap.size, W.heap.size + 1, rfl, Nat.le_refl _, Nat.le_succ _, (Below.heap_alloc _ _ _ (by simp)).trans (World.alloc_heap_new W _), by have := World.alloc_heap_new (W.alloc (Obj.cells #[Value.slice A n c] 51)) (Obj.cells arr 48); rwa [World.size_alloc] at this, ((Below.refl _ W).alloc (Nat.le_refl _) _).alloc (by simp) _⟩
theorem en97 : EnvOK Try.prog (assoc glT) s97_ct := env (ct := [(99, f99_ct)]) (ios := [(98, f98_ct)]) (hos := []) (lits := []) (AllOK.cons ok99 AllOK.nil) (AllW.cons ok98 AllW.nil) AllH.nil
theorem ok63 : CallsOK Try.prog (assoc glT) 63 f63_ct where
  enters := mk63.1
  calls := fun X W x y vs cs hX hg hv hc Q hQ => by
    obtain ⟨cuts, f, _⟩ := x
    obtain ⟨v, vs', rfl, hv1, v2, vs'', rfl, ⟨us, rfl, hv2⟩, hnil⟩ := hv
    have hnil : vs'' = [] := hnil
    subst hnil
    have hc : cs = [] := hc
    subst hc
    obtain ⟨ho, hQ⟩ := hQ
    have ho : CutsOK cuts := ho
    have hv1' := hv1
    obtain ⟨A, c, rfl, _⟩ := hv1'
    refine (mk63.2 W A cuts.length c us.toArray).mono ?_
    rintro e w' ⟨b1, b2, rfl, hb1, hb2, hc1, hc2, hbel⟩
    have e1 : Evo X W X w' := Evo.below hX hbel
    refine ⟨heapsF cuts f, _, rfl, ⟨⟨_, _, _, rfl⟩, fun X' W' hev => ?_⟩, .ofBelow hbel, hQ⟩
    have hx1 : ¬ X b1 := fun h => by have := hX b1 h; omega
    have hx2 : ¬ X b2 := fun h => by have := hX b2 h; omega
    have hw1 : b1 < w'.heap.size := (Array.getElem?_eq_some_iff.1 hc1).1
    have hw2 : b2 < w'.heap.size := (Array.getElem?_eq_some_iff.1 hc2).1
    have g1 := (Kd.stands Try.prog k51).val hev ((Kd.stands Try.prog k51).val e1 hv1)
    have g2 := (Kd.stands Try.prog k102).cells hev ((Kd.stands Try.prog k102).cells e1 hv2)
    refine seq_of (A := k159) (C := arg2 (.ptr 48 k48) (.ptr 51 k51)) (y := (f, cuts, ())) Try.func97 (by kernel_rfl) (by kernel_rfl) f97_an (fun l => y97_ct l (heapsF cuts f)) (fun _ => en97.st) (fun _ => en97.ct) (fun _ => en97.g) (fun T hT hx hgv B0 We hB => ?_) (fun l => (V97E l (heapsF cuts f) cuts f).mp (p97 ho)) hev.low (hg.evo (e1.trans hev)) (cs := [.pointer (some ⟨b2, 0, none⟩), .pointer (some ⟨b1, 0, none⟩)]) ?_
    · have := yopG_ok (A := k159) (T := T) (B0 := B0) (We := We) en97.st en97.ct en97.g hT (hgv.trans rfl) hB (fun lab => Nat.beq lab 1102) (fun _ => 0)
      rw [hx] at this
      exact this
    · refine ⟨_, _, rfl, ⟨b2, _, rfl, hev.notIn hx2 hw2, (hev.keep b2 ⟨_, _, _, hc2⟩ hx2).trans hc2, ?_⟩, _, _, rfl, ⟨b1, _, rfl, hev.notIn hx1 hw1, (hev.keep b1 ⟨_, _, _, hc1⟩ hx1).trans hc1, ?_⟩, rfl⟩
      · simpa using g2
      · exact ⟨_, rfl, rfl, g1⟩
end Go.Proofs.Tq
set_option linter.unusedVariables false
set_option maxRecDepth 100000
namespace Go.Proofs.Tq
open Go Go.GX Go.Proofs
theorem lossB_iff {l : Loss} : lossB l = true ↔ (2 ≤ l.1 ∧ l.1 ≤ 10) ∧ (0 ≤ l.2 ∧ l.2 ≤ l.1) := by
  simp only [lossB, inB, Bool.and_eq_true, decide_eq_true_eq]
theorem p36 {l : Loss} {Q : Bool → Prop} (h : f36_wp l () Q) : V36 l Q := by
  have h : Q (lossB l) := h
  unfold lossB at h
  refine in37 (cnd_iff.2 ⟨fun e => in37 ?_, fun e => ?_⟩)
  · rw [e, Bool.true_and] at h; exact h
  · rw [e, Bool.false_and] at h; exact h
theorem tdivS {n d : Int} (h1 : 0 ≤ n) (h2 : n ≤ 1000000) (h3 : 2 ≤ d) : Int.tdiv n d = n / d ∧ 0 ≤ n / d ∧ n / d ≤ 500000 ∧ Int.tmod n d = n % d ∧ 0 ≤ n % d ∧ n % d < d := by
  refine ⟨Int.tdiv_eq_ediv_of_nonneg h1, Int.ediv_nonneg h1 (by omega), ?_, Int.tmod_eq_emod_of_nonneg h1, Int.emod_nonneg _ (by omega), Int.emod_lt_of_pos _ (by omega)⟩
  have h4 : n / d ≤ n / 2 := by
    have := Int.ediv_mul_le n (show d ≠ 0 by omega)
    have h5 := Int.ediv_nonneg h1 (show 0 ≤ d by omega)
    have h6 : n / d * 2 ≤ n / d * d := Int.mul_le_mul_of_nonneg_left h3 h5
    omega
  omega
theorem mnI_min (a b : Int) : mnI a b = min a b := by
  unfold mnI
  split <;> omega
theorem br_bound {l : Loss} (hl : lossB l = true) {n : Int} (h1 : 0 ≤ n) (h2 : n ≤ 1000000) : 0 ≤ n / l.1 * l.2 ∧ n / l.1 * l.2 ≤ 5000000 ∧ 0 ≤ brF l n ∧ brF l n ≤ n := by
  obtain ⟨⟨a1, a2⟩, a3, a4⟩ := lossB_iff.1 hl
  obtain ⟨_, d1, d2, _, d3, d4⟩ := tdivS h1 h2 a1
  have e1 : 0 ≤ n / l.1 * l.2 := Int.mul_nonneg d1 a3
  have e2 : n / l.1 * l.2 ≤ n / l.1 * l.1 := Int.mul_le_mul_of_nonneg_left a4 d1
  have e3 := Int.mul_ediv_add_emod n l.1
  rw [Int.mul_comm] at e3
  unfold brF
  omega
theorem p38 {l : Loss} {n : Int} {Q : Int → Prop} (h : f38_wp (l, n, ()) () Q) : V38 l n Q := by
  obtain ⟨⟨hl, h1, h2⟩, h⟩ := h
  have hl : lossB l = true := hl
  have h1 : 0 ≤ n := h1
  have h2 : n ≤ 1000000 := h2
  have h : Q (brF l n) := h
  obtain ⟨⟨a1, a2⟩, a3, a4⟩ := lossB_iff.1 hl
  obtain ⟨d0, d1, d2, m0, d3, d4⟩ := tdivS h1 h2 a1
  obtain ⟨b1, b2, b3, b4⟩ := br_bound hl h1 h2
  refine ⟨by omega, by omega, ?_⟩
  rw [d0, m0, mnI_min, wrapS (x := n / l.1) (by omega) (by omega), wrapS (x := n / l.1 * l.2) (by omega) (by omega), wrapS (by unfold brF at b3; omega) (by omega)]
  exact h
theorem p39 {n : Int} {l : Loss} {w : Int} {Q : Bool → Prop} (h : f39_wp n (l, w, ()) Q) : V39 n l w Q := by
  obtain ⟨⟨hl, h1, h2⟩, h⟩ := h
  have hl : lossB l = true := hl
  obtain ⟨b1, b2, b3, b4⟩ := br_bound hl h1 h2
  refine ⟨_, ⟨⟨hl, h1, h2⟩, rfl⟩, ?_⟩
  show Q (decide (IntKind.wrap .i64 (n - brF l n) < w))
  rw [wrapS (by omega) (by omega)]; exact h

theorem br_step {l : Loss} (hl : lossB l = true) {n : Int} (h1 : 0 ≤ n) : brF l (n + 1) ≤ brF l n + 1 := by
  obtain ⟨⟨a1, a2⟩, a3, a4⟩ := lossB_iff.1 hl
  have e3 := Int.mul_ediv_add_emod n l.1
  have d3 := Int.emod_nonneg n (show l.1 ≠ 0 by omega)
  have d4 := Int.emod_lt_of_pos n (show 0 < l.1 by omega)
  unfold brF
  by_cases hr : n % l.1 + 1 < l.1
  · have q : (n + 1) / l.1 = n / l.1 ∧ (n + 1) % l.1 = n % l.1 + 1 := by
      rw [Int.ediv_emod_unique (by omega)]
      omega
    rw [q.1, q.2]
    omega
  · have q : (n + 1) / l.1 = n / l.1 + 1 ∧ (n + 1) % l.1 = 0 := by
      rw [Int.ediv_emod_unique (by omega), Int.mul_add]
      omega
    rw [q.1, q.2, Int.add_mul]
    omega
theorem few_mono {l : Loss} (hl : lossB l = true) {w : Int} {a : Nat} : ∀ d : Nat, fewB l w ((a + d : Nat) : Int) = true → fewB l w (a : Int) = true
  | 0, h => h
  | d + 1, h => by
    refine few_mono hl d ?_
    have h : ((a + d + 1 : Nat) : Int) - brF l ((a + d + 1 : Nat) : Int) < w := of_decide_eq_true h
    have := br_step hl (n := ((a + d : Nat) : Int)) (by omega)
    refine decide_eq_true ?_
    rw [show ((a + d + 1 : Nat) : Int) = ((a + d : Nat) : Int) + 1 by push_cast; omega] at h
    omega
theorem p19 {l : Loss} {w : Int} {Q : Int × Int × Unit → Prop} (h : f19_wp (l, w, ()) () Q) : V19 l w Q := by
  obtain ⟨h1, h⟩ := h
  show cnd (!lossB l) _ _
  refine cnd_iff.2 ⟨fun e => ?_, fun e => in37 (cnd_iff.2 ⟨fun e2 => ?_, fun e2 => ?_⟩)⟩
  · exact h1 (by simpa using e)
  · exact (h (by simpa using e)).1 (by simpa using e2)
  have e : lossB l = true := by simpa using e
  have e2 : inB 0 1000000 w = true := by simpa using e2
  refine ⟨⟨e, by show (0 : Int) ≤ 1000000; omega, by show (1000000 : Int) ≤ 1000000; omega⟩, ?_⟩
  show cnd (fewB l w 1000000) _ _
  refine cnd_iff.2 ⟨fun e3 => ?_, fun e3 => ?_⟩
  · exact ((h e).2 e2).1 e3
  refine ⟨fun x y => ∃ a b : Nat, x = a ∧ y = b ∧ a ≤ b ∧ b ≤ 1000000 ∧ fewB l w b = false ∧ ∀ m : Nat, m < a → fewB l w m = true, fun x y => (y - x).toNat, ⟨0, 1000000, rfl, rfl, by omega, by omega, e3, fun m hm => absurd hm (Nat.not_lt_zero _)⟩, ?_⟩
  rintro _ _ ⟨a, b, rfl, rfl, hab, hb, hfb, hfa⟩
  refine cnd_iff.2 ⟨fun c => ⟨by omega, ?_⟩, fun c => ?_⟩
  · have c : (a : Int) < b := of_decide_eq_true c
    have em : IntKind.wrap .i64 (Int.tdiv (IntKind.wrap .i64 ((a : Int) + b)) 2) = (((a + b) / 2 : Nat) : Int) := by
      rw [wrapS (x := (a : Int) + b) (by omega) (by omega), Int.tdiv_eq_ediv_of_nonneg (by omega), wrapS (by omega) (by omega)]
      push_cast; rfl
    rw [em]
    obtain ⟨m, hm⟩ : ∃ m, m = (a + b) / 2 := ⟨_, rfl⟩
    rw [← hm]
    refine ⟨⟨e, by show (0 : Int) ≤ m; omega, by show (m : Int) ≤ 1000000; omega⟩, ?_⟩
    show cnd (fewB l w m) _ _
    refine cnd_iff.2 ⟨fun c2 => ?_, fun c2 => ?_⟩
    · rw [wrapS (x := (m : Int) + 1) (by omega) (by omega)]
      refine ⟨⟨m + 1, b, by push_cast; rfl, rfl, by omega, hb, hfb, fun j hj => ?_⟩, by show ((b : Int) - ((m : Int) + 1)).toNat < ((b : Int) - a).toNat; omega⟩
      exact few_mono e (m - j) (by rw [show j + (m - j) = m by omega]; exact c2)
    · exact ⟨⟨a, m, rfl, rfl, by omega, by omega, c2, hfa⟩, by show ((m : Int) - a).toNat < ((b : Int) - a).toNat; omega⟩
  · have c : ¬ (a : Int) < b := of_decide_eq_false c
    have : a = b := by omega
    subst this
    exact ((h e).2 e2).2 e3 a hb hfb hfa
theorem known_most : mostC [(0, 1, 100), (0, 2, 130), (0, 3, 104), (0, 4, 102)] (2, 1, 6) = (1, 0, ()) := by decide +kernel
theorem give_one {l : Loss} {w : Int} {n m : Nat} (h1 : fewB l w n = false) (h2 : ∀ j : Nat, j < n → fewB l w j = true) (h3 : fewB l w m = false) (h4 : ∀ j : Nat, j < m → fewB l w j = true) : n = m := by
  rcases Nat.lt_trichotomy n m with h | h | h
  · rw [h4 n h] at h1; cases h1
  · exact h
  · rw [h2 m h] at h3; cases h3
theorem gen12k {K : Int × Int × Unit → Prop} (h : K (1, 0, ())) : f12_wp ([(0, 1, 100), (0, 2, 130), (0, 3, 104), (0, 4, 102)], (2, 1, 6), ()) () K := by
  show K (mostC _ _)
  rw [known_most]; exact h
theorem gen19k {K : Int × Int × Unit → Prop} (h : K (25, 0, ())) : f19_wp ((10, 1), 22, ()) () K := by
  have k1 : lossB (10, 1) = true := by decide +kernel
  have k2 : inB 0 1000000 22 = true := by decide +kernel
  have k3 : fewB (10, 1) 22 1000000 = false := by decide +kernel
  refine ⟨fun e => absurd (k1.symm.trans e) (by simp), fun _ => ⟨fun e => absurd (k2.symm.trans e) (by simp), fun _ => ⟨fun e => absurd (k3.symm.trans e) (by simp), fun _ n _ h1 h2 => ?_⟩⟩⟩
  have : (List.range 25).all (fun (m : Nat) => fewB (10, 1) 22 (m : Int)) = true := by decide +kernel
  have : n = 25 := give_one h1 h2 (m := 25) (by decide +kernel) fun m hm => List.all_eq_true.1 this m (List.mem_range.2 hm)
  subst this
  exact h
theorem p20 {Q : Bool → Prop} (h : f20_wp () () Q) : V20 Q := by
  have h : Q true := h
  exact gen12k (gen19k h)
theorem cutsK_len (t k : Int) (n : Nat) : (cutsK t k n).length = n := by simp [cutsK]
theorem p13 {t many thick : Int} {Q : List Cut → Prop} (h : f13_wp (t, many, thick, ()) () Q) : V13 t many thick Q := by
  obtain ⟨⟨h1, h2⟩, h⟩ := h
  have h1 : 0 ≤ many := h1
  have h2 : many ≤ 1000 := h2
  have h : Q (cutsK t thick many.toNat) := h
  refine ⟨fun x s => ∃ k : Nat, k ≤ many.toNat ∧ x = k ∧ s = cutsK t thick k, fun x _ => (many - x).toNat, ⟨0, Nat.zero_le _, rfl, rfl⟩, ?_⟩
  rintro _ _ ⟨k, hk, rfl, rfl⟩
  refine cnd_iff.2 ⟨fun c => ?_, fun c => ?_⟩
  · have c : (k : Int) < many := of_decide_eq_true c
    rw [wrapS (x := 1 + (k : Int)) (by omega) (by omega), wrapS (x := (k : Int) + 1) (by omega) (by omega), cutsK_len]
    refine ⟨by simp only [List.length_cons, List.length_nil]; omega, ⟨k + 1, by omega, by push_cast; rfl, ?_⟩, by show (many - ((k : Int) + 1)).toNat < (many - (k : Int)).toNat; omega⟩
    unfold cutsK
    rw [List.range_succ, List.map_append]; rfl
  · have c : ¬ (k : Int) < many := of_decide_eq_false c
    have : k = many.toNat := by omega
    subst this
    exact h
end Go.Proofs.Tq
set_option maxRecDepth 100000
set_option maxHeartbeats 2000000
namespace Go.Proofs.Tq
open Go Go.GX Go.Proofs
variable [Inhabited BaseD]
theorem ok64 : CallsOK Try.prog (assoc glT) 64 f64_ct :=
  callsOK_E (env (ct := [(101, f101_ct), (103, f103_ct)]) (ios := [(102, f102_ct)]) (hos := []) (lits := []) (AllOK.cons ok101 (AllOK.cons ok103 AllOK.nil)) (AllW.cons ok102 AllW.nil) AllH.nil) f64_an Try.func64 (by kernel_rfl) (by kernel_rfl) f64_ct fun hp _ Q h => (v64 hp Q).mp (p64 h)
theorem ok30 : CallsOK Try.prog (assoc glT) 30 f30_ct :=
  callsOK_E (env (ct := [(63, f63_ct), (64, f64_ct)]) (ios := []) (hos := []) (lits := []) (AllOK.cons ok63 (AllOK.cons ok64 AllOK.nil)) AllW.nil AllH.nil) f30_an Try.func30 (by kernel_rfl) (by kernel_rfl) f30_ct fun ⟨l, f, _⟩ _ Q h => (v30 l f Q).mp (p30 h)
theorem ok12 : CallsOK Try.prog (assoc glT) 12 f12_ct :=
  callsOK_E (env (ct := [(29, f29_ct), (30, f30_ct)]) (ios := []) (hos := []) (lits := []) (AllOK.cons ok29 (AllOK.cons ok30 AllOK.nil)) AllW.nil AllH.nil) no_an Try.func12 (by kernel_rfl) (by kernel_rfl) f12_ct fun ⟨l, f, _⟩ _ Q h => (v12 l f Q).mp (p12 h)
theorem ok36 : CallsOK Try.prog (assoc glT) 36 f36_ct :=
  callsOK_E (env (ct := [(37, f37_ct)]) (ios := []) (hos := []) (lits := []) (AllOK.cons ok37 AllOK.nil) AllW.nil AllH.nil) no_an Try.func36 (by kernel_rfl) (by kernel_rfl) f36_ct fun l _ Q h => (v36 l Q).mp (p36 h)
theorem ok38 : CallsOK Try.prog (assoc glT) 38 f38_ct :=
  callsOK_E (env (ct := []) (ios := []) (hos := []) (lits := []) AllOK.nil AllW.nil AllH.nil) no_an Try.func38 (by kernel_rfl) (by kernel_rfl) f38_ct fun ⟨p, n, _⟩ _ Q h => (v38 p n Q).mp (p38 h)
theorem ok39 : CallsOK Try.prog (assoc glT) 39 f39_ct :=
  callsOK_E (env (ct := [(38, f38_ct)]) (ios := []) (hos := []) (lits := []) (AllOK.cons ok38 AllOK.nil) AllW.nil AllH.nil) no_an Try.func39 (by kernel_rfl) (by kernel_rfl) f39_ct fun n ⟨l, w, _⟩ Q h => (v39 n l w Q).mp (p39 h)
theorem ok19 : CallsOK Try.prog (assoc glT) 19 f19_ct :=
  callsOK_E (env (ct := [(36, f36_ct), (37, f37_ct), (39, f39_ct)]) (ios := []) (hos := []) (lits := []) (AllOK.cons ok36 (AllOK.cons ok37 (AllOK.cons ok39 AllOK.nil))) AllW.nil AllH.nil) f19_an Try.func19 (by kernel_rfl) (by kernel_rfl) f19_ct fun ⟨l, want, _⟩ _ Q h => (v19 l want Q).mp (p19 h)
theorem ok20 : CallsOK Try.prog (assoc glT) 20 f20_ct :=
  callsOK_E (env (ct := [(12, f12_ct), (19, f19_ct)]) (ios := []) (hos := []) (lits := []) (AllOK.cons ok12 (AllOK.cons ok19 AllOK.nil)) AllW.nil AllH.nil) no_an Try.func20 (by kernel_rfl) (by kernel_rfl) f20_ct fun () _ Q h => (v20  Q).mp (p20 h)
theorem ok13 : CallsOK Try.prog (assoc glT) 13 f13_ct :=
  callsOK_E (env (ct := []) (ios := []) (hos := []) (lits := []) AllOK.nil AllW.nil AllH.nil) f13_an Try.func13 (by kernel_rfl) (by kernel_rfl) f13_ct fun ⟨t, many, thick, _⟩ _ Q h => (v13 t many thick Q).mp (p13 h)
end Go.Proofs.Tq
set_option linter.unusedVariables false
set_option maxRecDepth 100000
namespace Go.Proofs.Tq
open Go Go.GX Go.Proofs

def V69 (n : Int) (lo : Int) (hi : Int) (Q : Bool → Prop) : Prop :=
  cnd (decide (n < lo)) (Q true) (Q (decide (n > hi)))
theorem v69 (n : Int) (lo : Int) (hi : Int) (Q : Bool → Prop) : V69 n lo hi Q = vcFunc (S1 [] [] [] []) f69_ct.own f69_ct.fresh no_an Try.f69 (bodyOf Try.f69) f69_ct.A f69_ct.C f69_ct.R n (lo, hi, ()) Q := by kernel_rfl

def V41 (lo : Int) (hi : Int) (l : List Int) (Q : Bool → Prop) : Prop :=
  f65_wp (l, fun (x : Int) (Q : Bool → Prop) ↦ f69_wp x (lo, hi, ()) fun (r : Bool) ↦ Q r, ()) () fun (r : Bool) ↦ Q !r
theorem v41 (lo : Int) (hi : Int) (l : List Int) (Q : Bool → Prop) : V41 lo hi l Q = vcFunc (S1 [(65, f65_ct), (69, f69_ct)] [] [] []) f41_ct.own f41_ct.fresh no_an Try.f41 (bodyOf Try.f41) f41_ct.A f41_ct.C f41_ct.R (lo, hi, l, ()) () Q := by kernel_rfl

def V158 (s : Int × Int) (lo : Int) (hi : Int) (Q : Bool → Prop) : Prop :=
  f41_wp (lo, hi, Prod.fst s :: Prod.snd s :: ([] : List Int), ()) () fun (r : Bool) ↦ cnd r (Q (decide (Prod.fst s ≤ Prod.snd s))) (Q false)
theorem v158 (s : Int × Int) (lo : Int) (hi : Int) (Q : Bool → Prop) : V158 s lo hi Q = vcFunc (S1 [(41, f41_ct)] [] [] []) f158_ct.own f158_ct.fresh no_an Try.f158 (bodyOf Try.f158) f158_ct.A f158_ct.C f158_ct.R (s, lo, hi, ()) () Q := by kernel_rfl

def V159 (s : Int × Int) (Q : Bool → Prop) : Prop :=
  f158_wp ((Prod.fst s, Prod.snd s), (0 : Int), (300 : Int), ()) () fun (r : Bool) ↦ Q r
theorem v159 (s : Int × Int) (Q : Bool → Prop) : V159 s Q = vcFunc (S1 [(158, f158_ct)] [] [] []) f159_ct.own f159_ct.fresh no_an Try.f159 (bodyOf Try.f159) f159_ct.A f159_ct.C f159_ct.R s () Q := by kernel_rfl

def V131 (b : Int × Int) (t : Int × Int) (Q : Bool → Prop) : Prop :=
  f159_wp (Prod.fst b, Prod.snd b) () fun (r : Bool) ↦
    cnd r (f159_wp (Prod.fst t, Prod.snd t) () fun (r : Bool) ↦ cnd r (Q (decide (Prod.snd b ≤ Prod.fst t))) (Q false)) (Q false)
theorem v131 (b : Int × Int) (t : Int × Int) (Q : Bool → Prop) : V131 b t Q = vcFunc (S1 [(159, f159_ct)] [] [] []) f131_ct.own f131_ct.fresh no_an Try.f131 (bodyOf Try.f131) f131_ct.A f131_ct.C f131_ct.R (b, t, ()) () Q := by kernel_rfl

def V130 (c : (Int × Int) × (Int × Int) × Int × Int) (n : Int) (Q : Bool → Prop) : Prop :=
  f158_wp ((Prod.fst (Prod.fst c), Prod.snd (Prod.fst c)), (0 : Int), IntKind.wrap IntKind.i64 (n - (1 : Int)), ()) () fun (r : Bool) ↦
    cnd r
      (cnd (decide (IntKind.wrap IntKind.i64 (Prod.snd (Prod.fst c) - Prod.fst (Prod.fst c)) < (5 : Int)))
        (f131_wp
          ((Prod.fst (Prod.fst (Prod.snd c)), Prod.snd (Prod.fst (Prod.snd c))), (Prod.fst (Prod.snd (Prod.snd c)), Prod.snd (Prod.snd (Prod.snd c))),
            ())
          () fun (r : Bool) ↦ Q r)
        (Q false))
      (Q false)
theorem v130 (c : (Int × Int) × (Int × Int) × Int × Int) (n : Int) (Q : Bool → Prop) : V130 c n Q = vcFunc (S1 [(158, f158_ct), (131, f131_ct)] [] [] []) f130_ct.own f130_ct.fresh no_an Try.f130 (bodyOf Try.f130) f130_ct.A f130_ct.C f130_ct.R (c, n, ()) () Q := by kernel_rfl

def V129 (c : (Int × Int) × (Int × Int) × Int × Int) (n : Int) (Q : Bool → Prop) : Prop :=
  f130_wp
    (((Prod.fst (Prod.fst c), Prod.snd (Prod.fst c)), (Prod.fst (Prod.fst (Prod.snd c)), Prod.snd (Prod.fst (Prod.snd c))),
        Prod.fst (Prod.snd (Prod.snd c)), Prod.snd (Prod.snd (Prod.snd c))),
      n, ())
    () fun (r : Bool) ↦ Q !r
theorem v129 (c : (Int × Int) × (Int × Int) × Int × Int) (n : Int) (Q : Bool → Prop) : V129 c n Q = vcFunc (S1 [(130, f130_ct)] [] [] []) f129_ct.own f129_ct.fresh no_an Try.f129 (bodyOf Try.f129) f129_ct.A f129_ct.C f129_ct.R c (n, ()) Q := by kernel_rfl

def V157 (xs : List ((Int × Int) × (Int × Int) × Int × Int)) (f : (Int × Int) × (Int × Int) × Int × Int → (Bool → Prop) → Prop) (Q : Int → Prop) : Prop :=
  List.length xs ≤ (9223372036854775807 : Nat) →
    ∃ (I : Int → Prop),
      ∃ (μ : Int → Nat),
        I (0 : Int) ∧
          ∀ (x : Int),
            I x →
              cnd (decide (x < (↑(List.length xs) : Int)))
                ((0 : Int) ≤ x ∧
                  x < (↑(List.length xs) : Int) ∧
                    Prod.fst (f, ())
                      ((Prod.fst (Prod.fst (List.getD xs (Int.toNat x) (((0 : Int), (0 : Int)), ((0 : Int), (0 : Int)), (0 : Int), (0 : Int)))),
                          Prod.snd (Prod.fst (List.getD xs (Int.toNat x) (((0 : Int), (0 : Int)), ((0 : Int), (0 : Int)), (0 : Int), (0 : Int))))),
                        (Prod.fst
                            (Prod.fst (Prod.snd (List.getD xs (Int.toNat x) (((0 : Int), (0 : Int)), ((0 : Int), (0 : Int)), (0 : Int), (0 : Int))))),
                          Prod.snd
                            (Prod.fst (Prod.snd (List.getD xs (Int.toNat x) (((0 : Int), (0 : Int)), ((0 : Int), (0 : Int)), (0 : Int), (0 : Int)))))),
                        Prod.fst
                          (Prod.snd (Prod.snd (List.getD xs (Int.toNat x) (((0 : Int), (0 : Int)), ((0 : Int), (0 : Int)), (0 : Int), (0 : Int))))),
                        Prod.snd
                          (Prod.snd (Prod.snd (List.getD xs (Int.toNat x) (((0 : Int), (0 : Int)), ((0 : Int), (0 : Int)), (0 : Int), (0 : Int))))))
                      fun (r : Bool) ↦ cnd r (Q x) (I (IntKind.wrap IntKind.i64 (x + (1 : Int))) ∧ μ (IntKind.wrap IntKind.i64 (x + (1 : Int))) < μ x))
                (Q (-1 : Int))
theorem v157 (xs : List ((Int × Int) × (Int × Int) × Int × Int)) (f : (Int × Int) × (Int × Int) × Int × Int → (Bool → Prop) → Prop) (Q : Int → Prop) : V157 xs f Q = vcFunc (S1 [] [] [] []) f157_ct.own f157_ct.fresh idx_an Try.f157 (bodyOf Try.f157) f157_ct.A f157_ct.C f157_ct.R (xs, f, ()) () Q := by kernel_rfl

def V128 (xs : List ((Int × Int) × (Int × Int) × Int × Int)) (f : (Int × Int) × (Int × Int) × Int × Int → (Bool → Prop) → Prop) (Q : Bool → Prop) : Prop :=
  f157_wp (xs, f, ()) () fun (r : Int) ↦ Q (decide (r ≥ (0 : Int)))
theorem v128 (xs : List ((Int × Int) × (Int × Int) × Int × Int)) (f : (Int × Int) × (Int × Int) × Int × Int → (Bool → Prop) → Prop) (Q : Bool → Prop) : V128 xs f Q = vcFunc (S1 [(157, f157_ct)] [] [] []) f128_ct.own f128_ct.fresh no_an Try.f128 (bodyOf Try.f128) f128_ct.A f128_ct.C f128_ct.R (xs, f, ()) () Q := by kernel_rfl

def V105 (b : List (Int × Int) × List (Int × Int) × Int × List ((Int × Int) × (Int × Int) × Int × Int)) (Q : Int → Prop) : Prop :=
  List.length (Prod.fst b) ≤ (9223372036854775807 : Nat) →
    List.length (Prod.fst (Prod.snd b)) ≤ (9223372036854775807 : Nat) →
      cnd ((↑(List.length (Prod.fst b)) : Int) != (↑(List.length (Prod.fst (Prod.snd b))) : Int)) (Q (4 : Int))
        (f41_wp ((1 : Int), (30 : Int), (↑(List.length (Prod.fst b)) : Int) :: ([] : List Int), ()) () fun (r : Bool) ↦
          cnd (!r) (Q (4 : Int))
            (List.length (Prod.snd (Prod.snd (Prod.snd b))) ≤ (9223372036854775807 : Nat) →
              cnd (decide ((↑(List.length (Prod.snd (Prod.snd (Prod.snd b)))) : Int) > (4 : Int))) (Q (5 : Int))
                (f41_wp ((0 : Int), (300 : Int), Prod.fst (Prod.snd (Prod.snd b)) :: ([] : List Int), ()) () fun (r : Bool) ↦
                  cnd (!r) (Q (2 : Int))
                    (f128_wp
                      (Prod.snd (Prod.snd (Prod.snd b)), fun (x : (Int × Int) × (Int × Int) × Int × Int) (Q : Bool → Prop) ↦
                        f129_wp x ((↑(List.length (Prod.fst b)) : Int), ()) fun (r : Bool) ↦ Q r, ())
                      () fun (r : Bool) ↦
                      cnd r (Q (2 : Int))
                        (∃ (I : Int → Prop),
                          ∃ (μ : Int → Nat),
                            I (0 : Int) ∧
                              ∀ (x : Int),
                                I x →
                                  cnd (decide (x < (↑(List.length (Prod.fst b)) : Int)))
                                    ((0 : Int) ≤ x ∧
                                      x < (↑(List.length (Prod.fst b)) : Int) ∧
                                        (0 : Int) ≤ x ∧
                                          x < (↑(List.length (Prod.fst (Prod.snd b))) : Int) ∧
                                            ∃ (r : Bool),
                                              (f131_wp
                                                  ((Prod.fst (List.getD (Prod.fst b) (Int.toNat x) ((0 : Int), (0 : Int))),
                                                      Prod.snd (List.getD (Prod.fst b) (Int.toNat x) ((0 : Int), (0 : Int)))),
                                                    (Prod.fst (List.getD (Prod.fst (Prod.snd b)) (Int.toNat x) ((0 : Int), (0 : Int))),
                                                      Prod.snd (List.getD (Prod.fst (Prod.snd b)) (Int.toNat x) ((0 : Int), (0 : Int)))),
                                                    ())
                                                  () fun (r' : Bool) ↦ r' = r) ∧
                                                cnd (!r) (Q (2 : Int))
                                                  (I (IntKind.wrap IntKind.i64 (x + (1 : Int))) ∧ μ (IntKind.wrap IntKind.i64 (x + (1 : Int))) < μ x))
                                    (Q (0 : Int)))))))
theorem v105 (b : List (Int × Int) × List (Int × Int) × Int × List ((Int × Int) × (Int × Int) × Int × Int)) (Q : Int → Prop) : V105 b Q = vcFunc (S1 [(41, f41_ct), (128, f128_ct), (129, f129_ct), (131, f131_ct)] [] [] []) f105_ct.own f105_ct.fresh f105_an Try.f105 (bodyOf Try.f105) f105_ct.A f105_ct.C f105_ct.R b () Q := by kernel_rfl

def V133 (a : Int × Int) (b : Int × Int) (Q : Int × Int → Prop) : Prop :=
  Q (mxI (Prod.fst a) (Prod.fst b), mnI (Prod.snd a) (Prod.snd b))
theorem v133 (a : Int × Int) (b : Int × Int) (Q : Int × Int → Prop) : V133 a b Q = vcFunc (S1 [] [] [] []) f133_ct.own f133_ct.fresh no_an Try.f133 (bodyOf Try.f133) f133_ct.A f133_ct.C f133_ct.R (a, b, ()) () Q := by kernel_rfl

def V132 (xs : List (Int × Int)) (Q : List (Int × Int) → Prop) : Prop :=
  ∀ (b : Bool),
    (b = true → xs = ([] : List (Int × Int))) →
      cnd b (Q ([] : List (Int × Int)))
        ((List.length ([] : List (Int × Int)) + List.length xs) * (16 : Nat) ≤ (140737488355328 : Nat) ∧ Q (([] : List (Int × Int)) ++ xs))
theorem v132 (xs : List (Int × Int)) (Q : List (Int × Int) → Prop) : V132 xs Q = vcFunc (S1 [] [] [] [300]) f132_ct.own f132_ct.fresh no_an Try.f132 (bodyOf Try.f132) f132_ct.A f132_ct.C f132_ct.R xs () Q := by kernel_rfl

def V134 (ys : List (Int × Int)) (Q : Unit → List (Int × Int) → Prop) : Prop :=
  List.length ys ≤ (9223372036854775807 : Nat) →
    ∃ (I : Int → Int → List (Int × Int) → Prop),
      ∃ (μ : Int → Int → List (Int × Int) → Nat),
        I (0 : Int) (IntKind.wrap IntKind.i64 ((↑(List.length ys) : Int) - (1 : Int))) ys ∧
          ∀ (x x_1 : Int) (x_2 : List (Int × Int)),
            I x x_1 x_2 →
              cnd (decide (x < x_1))
                ((0 : Int) ≤ x_1 ∧
                  x_1 < (↑(List.length x_2) : Int) ∧
                    (0 : Int) ≤ x ∧
                      x < (↑(List.length x_2) : Int) ∧
                        (0 : Int) ≤ x ∧
                          x < (↑(List.length x_2) : Int) ∧
                            (0 : Int) ≤ x_1 ∧
                              x_1 <
                                  (↑(List.length
                                        (List.set x_2 (Int.toNat x)
                                          (Prod.fst (List.getD x_2 (Int.toNat x_1) ((0 : Int), (0 : Int))),
                                            Prod.snd (List.getD x_2 (Int.toNat x_1) ((0 : Int), (0 : Int)))))) :
                                    Int) ∧
                                I (IntKind.wrap IntKind.i64 (x + (1 : Int))) (IntKind.wrap IntKind.i64 (x_1 - (1 : Int)))
                                    (List.set
                                      (List.set x_2 (Int.toNat x)
                                        (Prod.fst (List.getD x_2 (Int.toNat x_1) ((0 : Int), (0 : Int))),
                                          Prod.snd (List.getD x_2 (Int.toNat x_1) ((0 : Int), (0 : Int)))))
                                      (Int.toNat x_1)
                                      (Prod.fst (List.getD x_2 (Int.toNat x) ((0 : Int), (0 : Int))),
                                        Prod.snd (List.getD x_2 (Int.toNat x) ((0 : Int), (0 : Int))))) ∧
                                  μ (IntKind.wrap IntKind.i64 (x + (1 : Int))) (IntKind.wrap IntKind.i64 (x_1 - (1 : Int)))
                                      (List.set
                                        (List.set x_2 (Int.toNat x)
                                          (Prod.fst (List.getD x_2 (Int.toNat x_1) ((0 : Int), (0 : Int))),
                                            Prod.snd (List.getD x_2 (Int.toNat x_1) ((0 : Int), (0 : Int)))))
                                        (Int.toNat x_1)
                                        (Prod.fst (List.getD x_2 (Int.toNat x) ((0 : Int), (0 : Int))),
                                          Prod.snd (List.getD x_2 (Int.toNat x) ((0 : Int), (0 : Int))))) <
                                    μ x x_1 x_2)
                (Q () x_2)
theorem v134 (ys : List (Int × Int)) (Q : Unit → List (Int × Int) → Prop) : V134 ys Q = vcFuncW (S1 [] [] [] []) f134_an Try.f134 (bodyOf Try.f134) f134_ct ys () () Q := by kernel_rfl

def V106 (l : List (Int × Int)) (bend : Int) (Q : List (Int × Int) × Bool × Unit → Prop) : Prop :=
  f132_wp l () fun (r : List (Int × Int)) ↦
    ∃ (I : Int → List (Int × Int) → Prop),
      ∃ (μ : Int → List (Int × Int) → Nat),
        I (0 : Int) r ∧
          ∀ (x : Int) (x_1 : List (Int × Int)),
            I x x_1 →
              cnd (decide (x < (2 : Int)))
                (∃ (I_1 : Int → List (Int × Int) → Prop),
                  ∃ (μ_1 : Int → List (Int × Int) → Nat),
                    I_1 (1 : Int) x_1 ∧
                      ∀ (x_2 : Int) (x_3 : List (Int × Int)),
                        I_1 x_2 x_3 →
                          List.length x_3 ≤ (9223372036854775807 : Nat) →
                            cnd (decide (x_2 < (↑(List.length x_3) : Int)))
                              ((0 : Int) ≤ IntKind.wrap IntKind.i64 (x_2 - (1 : Int)) ∧
                                IntKind.wrap IntKind.i64 (x_2 - (1 : Int)) < (↑(List.length x_3) : Int) ∧
                                  (0 : Int) ≤ x_2 ∧
                                    x_2 < (↑(List.length x_3) : Int) ∧
                                      ∃ (r : Int × Int),
                                        (f133_wp
                                            ((Prod.fst (List.getD x_3 (Int.toNat x_2) ((0 : Int), (0 : Int))),
                                                Prod.snd (List.getD x_3 (Int.toNat x_2) ((0 : Int), (0 : Int)))),
                                              (IntKind.wrap IntKind.i64
                                                  (Prod.fst
                                                      (List.getD x_3 (Int.toNat (IntKind.wrap IntKind.i64 (x_2 - (1 : Int)))) ((0 : Int), (0 : Int))) -
                                                    bend),
                                                IntKind.wrap IntKind.i64
                                                  (Prod.snd
                                                      (List.getD x_3 (Int.toNat (IntKind.wrap IntKind.i64 (x_2 - (1 : Int)))) ((0 : Int), (0 : Int))) +
                                                    bend)),
                                              ())
                                            () fun (r' : Int × Int) ↦ r' = r) ∧
                                          (0 : Int) ≤ x_2 ∧
                                            x_2 < (↑(List.length x_3) : Int) ∧
                                              (0 : Int) ≤ x_2 ∧
                                                x_2 < (↑(List.length (List.set x_3 (Int.toNat x_2) (Prod.fst r, Prod.snd r))) : Int) ∧
                                                  (0 : Int) ≤ x_2 ∧
                                                    x_2 < (↑(List.length (List.set x_3 (Int.toNat x_2) (Prod.fst r, Prod.snd r))) : Int) ∧
                                                      cnd
                                                        (decide
                                                          (Prod.fst
                                                              (List.getD (List.set x_3 (Int.toNat x_2) (Prod.fst r, Prod.snd r)) (Int.toNat x_2)
                                                                ((0 : Int), (0 : Int))) >
                                                            Prod.snd
                                                              (List.getD (List.set x_3 (Int.toNat x_2) (Prod.fst r, Prod.snd r)) (Int.toNat x_2)
                                                                ((0 : Int), (0 : Int)))))
                                                        (Q (([] : List (Int × Int)), false, ()))
                                                        (I_1 (IntKind.wrap IntKind.i64 (x_2 + (1 : Int)))
                                                            (List.set x_3 (Int.toNat x_2) (Prod.fst r, Prod.snd r)) ∧
                                                          μ_1 (IntKind.wrap IntKind.i64 (x_2 + (1 : Int)))
                                                              (List.set x_3 (Int.toNat x_2) (Prod.fst r, Prod.snd r)) <
                                                            μ_1 x_2 x_3))
                              (f134_wp x_3 () () fun (r : Unit) (zs : List (Int × Int)) ↦
                                I (IntKind.wrap IntKind.i64 (x + (1 : Int))) zs ∧ μ (IntKind.wrap IntKind.i64 (x + (1 : Int))) zs < μ x x_1))
                (Q (x_1, true, ()))
theorem v106 (l : List (Int × Int)) (bend : Int) (Q : List (Int × Int) × Bool × Unit → Prop) : V106 l bend Q = vcFunc (S1 [(132, f132_ct), (133, f133_ct)] [(134, f134_ct)] [] []) f106_ct.own f106_ct.fresh f106_an Try.f106 (bodyOf Try.f106) f106_ct.A f106_ct.C f106_ct.R (l, bend, ()) () Q := by kernel_rfl

def V68 (b : List (Int × Int) × List (Int × Int) × Int × List ((Int × Int) × (Int × Int) × Int × Int)) (Q : ((List (Int × Int) × List (Int × Int) × Int × List ((Int × Int) × (Int × Int) × Int × Int)) × List (Int × Int) × List (Int × Int)) × Int × Unit → Prop) : Prop :=
  f105_wp (Prod.fst b, Prod.fst (Prod.snd b), Prod.fst (Prod.snd (Prod.snd b)), Prod.snd (Prod.snd (Prod.snd b))) () fun (r : Int) ↦
    cnd (r != (0 : Int))
      (Q
        (((([] : List (Int × Int)), ([] : List (Int × Int)), (0 : Int), ([] : List ((Int × Int) × (Int × Int) × Int × Int))), ([] : List (Int × Int)),
            ([] : List (Int × Int))),
          r, ()))
      (f106_wp (Prod.fst b, Prod.fst (Prod.snd (Prod.snd b)), ()) () fun (r : List (Int × Int) × Bool × Unit) ↦
        f106_wp (Prod.fst (Prod.snd b), Prod.fst (Prod.snd (Prod.snd b)), ()) () fun (r_1 : List (Int × Int) × Bool × Unit) ↦
          cnd (!Prod.fst (Prod.snd r))
            (Q
              (((([] : List (Int × Int)), ([] : List (Int × Int)), (0 : Int), ([] : List ((Int × Int) × (Int × Int) × Int × Int))),
                  ([] : List (Int × Int)), ([] : List (Int × Int))),
                (9 : Int), ()))
            (cnd (!Prod.fst (Prod.snd r_1))
              (Q
                (((([] : List (Int × Int)), ([] : List (Int × Int)), (0 : Int), ([] : List ((Int × Int) × (Int × Int) × Int × Int))),
                    ([] : List (Int × Int)), ([] : List (Int × Int))),
                  (9 : Int), ()))
              (Q
                (((Prod.fst b, Prod.fst (Prod.snd b), Prod.fst (Prod.snd (Prod.snd b)), Prod.snd (Prod.snd (Prod.snd b))), Prod.fst r, Prod.fst r_1),
                  (0 : Int), ()))))
theorem v68 (b : List (Int × Int) × List (Int × Int) × Int × List ((Int × Int) × (Int × Int) × Int × Int)) (Q : ((List (Int × Int) × List (Int × Int) × Int × List ((Int × Int) × (Int × Int) × Int × Int)) × List (Int × Int) × List (Int × Int)) × Int × Unit → Prop) : V68 b Q = vcFunc (S1 [(105, f105_ct), (106, f106_ct)] [] [] []) f68_ct.own f68_ct.fresh no_an Try.f68 (bodyOf Try.f68) f68_ct.A f68_ct.C f68_ct.R b () Q := by kernel_rfl

def V40 (b : List (Int × Int) × List (Int × Int) × Int × List ((Int × Int) × (Int × Int) × Int × Int)) (s : Int × Int × Int × Int) (Q : ((List (Int × Int) × List (Int × Int) × Int × List ((Int × Int) × (Int × Int) × Int × Int)) × List (Int × Int) × List (Int × Int)) × Int × Unit → Prop) : Prop :=
  f68_wp (Prod.fst b, Prod.fst (Prod.snd b), Prod.fst (Prod.snd (Prod.snd b)), Prod.snd (Prod.snd (Prod.snd b))) ()
    fun
      (r :
        ((List (Int × Int) × List (Int × Int) × Int × List ((Int × Int) × (Int × Int) × Int × Int)) × List (Int × Int) × List (Int × Int)) ×
          Int × Unit) ↦
    cnd (Prod.fst (Prod.snd r) == (0 : Int))
      (f41_wp ((1 : Int), (30 : Int), Prod.fst s :: ([] : List Int), ()) () fun (r_1 : Bool) ↦
        cnd (!r_1)
          (Q
            (((Prod.fst (Prod.fst (Prod.fst r)), Prod.fst (Prod.snd (Prod.fst (Prod.fst r))), Prod.fst (Prod.snd (Prod.snd (Prod.fst (Prod.fst r)))),
                  Prod.snd (Prod.snd (Prod.snd (Prod.fst (Prod.fst r))))),
                Prod.fst (Prod.snd (Prod.fst r)), Prod.snd (Prod.snd (Prod.fst r))),
              (3 : Int), ()))
          (f41_wp ((1 : Int), (300 : Int), Prod.fst (Prod.snd s) :: ([] : List Int), ()) () fun (r_2 : Bool) ↦
            cnd (!r_2)
              (Q
                (((Prod.fst (Prod.fst (Prod.fst r)), Prod.fst (Prod.snd (Prod.fst (Prod.fst r))),
                      Prod.fst (Prod.snd (Prod.snd (Prod.fst (Prod.fst r)))), Prod.snd (Prod.snd (Prod.snd (Prod.fst (Prod.fst r))))),
                    Prod.fst (Prod.snd (Prod.fst r)), Prod.snd (Prod.snd (Prod.fst r))),
                  (3 : Int), ()))
              (f41_wp ((0 : Int), (50 : Int), Prod.fst (Prod.snd (Prod.snd s)) :: Prod.snd (Prod.snd (Prod.snd s)) :: ([] : List Int), ()) ()
                fun (r_3 : Bool) ↦
                cnd (!r_3)
                  (Q
                    (((Prod.fst (Prod.fst (Prod.fst r)), Prod.fst (Prod.snd (Prod.fst (Prod.fst r))),
                          Prod.fst (Prod.snd (Prod.snd (Prod.fst (Prod.fst r)))), Prod.snd (Prod.snd (Prod.snd (Prod.fst (Prod.fst r))))),
                        Prod.fst (Prod.snd (Prod.fst r)), Prod.snd (Prod.snd (Prod.fst r))),
                      (3 : Int), ()))
                  (Q
                    (((Prod.fst (Prod.fst (Prod.fst r)), Prod.fst (Prod.snd (Prod.fst (Prod.fst r))),
                          Prod.fst (Prod.snd (Prod.snd (Prod.fst (Prod.fst r)))), Prod.snd (Prod.snd (Prod.snd (Prod.fst (Prod.fst r))))),
                        Prod.fst (Prod.snd (Prod.fst r)), Prod.snd (Prod.snd (Prod.fst r))),
                      Prod.fst (Prod.snd r), ())))))
      (Q
        (((Prod.fst (Prod.fst (Prod.fst r)), Prod.fst (Prod.snd (Prod.fst (Prod.fst r))), Prod.fst (Prod.snd (Prod.snd (Prod.fst (Prod.fst r)))),
              Prod.snd (Prod.snd (Prod.snd (Prod.fst (Prod.fst r))))),
            Prod.fst (Prod.snd (Prod.fst r)), Prod.snd (Prod.snd (Prod.fst r))),
          Prod.fst (Prod.snd r), ()))
theorem v40 (b : List (Int × Int) × List (Int × Int) × Int × List ((Int × Int) × (Int × Int) × Int × Int)) (s : Int × Int × Int × Int) (Q : ((List (Int × Int) × List (Int × Int) × Int × List ((Int × Int) × (Int × Int) × Int × Int)) × List (Int × Int) × List (Int × Int)) × Int × Unit → Prop) : V40 b s Q = vcFunc (S1 [(68, f68_ct), (41, f41_ct)] [] [] []) f40_ct.own f40_ct.fresh no_an Try.f40 (bodyOf Try.f40) f40_ct.A f40_ct.C f40_ct.R (b, s, ()) () Q := by kernel_rfl

def V71 (s : Int × Int) (Q : Int → Prop) : Prop :=
  Q (Prod.snd s)
theorem v71 (s : Int × Int) (Q : Int → Prop) : V71 s Q = vcFunc (S1 [] [] [] []) f71_ct.own f71_ct.fresh no_an Try.f71 (bodyOf Try.f71) f71_ct.A f71_ct.C f71_ct.R s () Q := by kernel_rfl

def V72 (s : Int × Int) (Q : Int → Prop) : Prop :=
  Q (Prod.fst s)
theorem v72 (s : Int × Int) (Q : Int → Prop) : V72 s Q = vcFunc (S1 [] [] [] []) f72_ct.own f72_ct.fresh no_an Try.f72 (bodyOf Try.f72) f72_ct.A f72_ct.C f72_ct.R s () Q := by kernel_rfl

def V70 (l : List (Int × Int)) (f : Int × Int → (Int → Prop) → Prop) (Q : List Int → Prop) : Prop :=
  List.length l ≤ (9223372036854775807 : Nat) →
    ∃ (I : Int → List Int → Prop),
      ∃ (μ : Int → List Int → Nat),
        I (0 : Int) ([] : List Int) ∧
          ∀ (x : Int) (x_1 : List Int),
            I x x_1 →
              cnd (decide (x < (↑(List.length l) : Int)))
                ((0 : Int) ≤ x ∧
                  x < (↑(List.length l) : Int) ∧
                    Prod.fst (f, ())
                      (Prod.fst (List.getD l (Int.toNat x) ((0 : Int), (0 : Int))), Prod.snd (List.getD l (Int.toNat x) ((0 : Int), (0 : Int))))
                      fun (r : Int) ↦
                      (List.length x_1 + List.length (r :: ([] : List Int))) * (8 : Nat) ≤ (140737488355328 : Nat) ∧
                        I (IntKind.wrap IntKind.i64 (x + (1 : Int))) (x_1 ++ r :: ([] : List Int)) ∧
                          μ (IntKind.wrap IntKind.i64 (x + (1 : Int))) (x_1 ++ r :: ([] : List Int)) < μ x x_1)
                (Q x_1)
theorem v70 (l : List (Int × Int)) (f : Int × Int → (Int → Prop) → Prop) (Q : List Int → Prop) : V70 l f Q = vcFunc (S1 [] [] [] []) f70_ct.own f70_ct.fresh f70_an Try.f70 (bodyOf Try.f70) f70_ct.A f70_ct.C f70_ct.R (l, f, ()) () Q := by kernel_rfl

def V42 (b : (List (Int × Int) × List (Int × Int) × Int × List ((Int × Int) × (Int × Int) × Int × Int)) × List (Int × Int) × List (Int × Int)) (Q : List Int × List Int × List ((Int × Int) × Int × Int) → Prop) : Prop :=
  ∃ (r : List Int),
    (f70_wp (Prod.fst (Prod.snd b), fun (x : Int × Int) (Q : Int → Prop) ↦ f71_wp x () fun (r : Int) ↦ Q r, ()) () fun (r' : List Int) ↦ r' = r) ∧
      ∃ (r_1 : List Int),
        (f70_wp (Prod.snd (Prod.snd b), fun (x : Int × Int) (Q : Int → Prop) ↦ f72_wp x () fun (r : Int) ↦ Q r, ()) () fun (r' : List Int) ↦ r' = r_1) ∧
          (List.length (Prod.snd (Prod.snd (Prod.snd (Prod.fst b)))) ≤ (9223372036854775807 : Nat) →
            ∃ (I : Int → (List Int × List Int) × List ((Int × Int) × Int × Int) → Prop),
              ∃ (μ : Int → (List Int × List Int) × List ((Int × Int) × Int × Int) → Nat),
                I (0 : Int) ((r, r_1), ([] : List ((Int × Int) × Int × Int))) ∧
                  ∀ (x : Int) (x_1 : (List Int × List Int) × List ((Int × Int) × Int × Int)),
                    I x x_1 →
                      cnd (decide (x < (↑(List.length (Prod.snd (Prod.snd (Prod.snd (Prod.fst b))))) : Int)))
                        ((0 : Int) ≤ x ∧
                          x < (↑(List.length (Prod.snd (Prod.snd (Prod.snd (Prod.fst b))))) : Int) ∧
                            (List.length (Prod.snd x_1) +
                                    List.length
                                      (((Prod.fst
                                              (Prod.fst
                                                (List.getD (Prod.snd (Prod.snd (Prod.snd (Prod.fst b)))) (Int.toNat x)
                                                  (((0 : Int), (0 : Int)), ((0 : Int), (0 : Int)), (0 : Int), (0 : Int)))),
                                            Prod.snd
                                              (Prod.fst
                                                (List.getD (Prod.snd (Prod.snd (Prod.snd (Prod.fst b)))) (Int.toNat x)
                                                  (((0 : Int), (0 : Int)), ((0 : Int), (0 : Int)), (0 : Int), (0 : Int))))),
                                          Prod.fst
                                            (Prod.fst
                                              (Prod.snd
                                                (List.getD (Prod.snd (Prod.snd (Prod.snd (Prod.fst b)))) (Int.toNat x)
                                                  (((0 : Int), (0 : Int)), ((0 : Int), (0 : Int)), (0 : Int), (0 : Int))))),
                                          Prod.snd
                                            (Prod.snd
                                              (Prod.snd
                                                (List.getD (Prod.snd (Prod.snd (Prod.snd (Prod.fst b)))) (Int.toNat x)
                                                  (((0 : Int), (0 : Int)), ((0 : Int), (0 : Int)), (0 : Int), (0 : Int)))))) ::
                                        ([] : List ((Int × Int) × Int × Int)))) *
                                  (32 : Nat) ≤
                                (140737488355328 : Nat) ∧
                              I (IntKind.wrap IntKind.i64 (x + (1 : Int)))
                                  ((Prod.fst (Prod.fst x_1), Prod.snd (Prod.fst x_1)),
                                    Prod.snd x_1 ++
                                      ((Prod.fst
                                              (Prod.fst
                                                (List.getD (Prod.snd (Prod.snd (Prod.snd (Prod.fst b)))) (Int.toNat x)
                                                  (((0 : Int), (0 : Int)), ((0 : Int), (0 : Int)), (0 : Int), (0 : Int)))),
                                            Prod.snd
                                              (Prod.fst
                                                (List.getD (Prod.snd (Prod.snd (Prod.snd (Prod.fst b)))) (Int.toNat x)
                                                  (((0 : Int), (0 : Int)), ((0 : Int), (0 : Int)), (0 : Int), (0 : Int))))),
                                          Prod.fst
                                            (Prod.fst
                                              (Prod.snd
                                                (List.getD (Prod.snd (Prod.snd (Prod.snd (Prod.fst b)))) (Int.toNat x)
                                                  (((0 : Int), (0 : Int)), ((0 : Int), (0 : Int)), (0 : Int), (0 : Int))))),
                                          Prod.snd
                                            (Prod.snd
                                              (Prod.snd
                                                (List.getD (Prod.snd (Prod.snd (Prod.snd (Prod.fst b)))) (Int.toNat x)
                                                  (((0 : Int), (0 : Int)), ((0 : Int), (0 : Int)), (0 : Int), (0 : Int)))))) ::
                                        ([] : List ((Int × Int) × Int × Int))) ∧
                                μ (IntKind.wrap IntKind.i64 (x + (1 : Int)))
                                    ((Prod.fst (Prod.fst x_1), Prod.snd (Prod.fst x_1)),
                                      Prod.snd x_1 ++
                                        ((Prod.fst
                                                (Prod.fst
                                                  (List.getD (Prod.snd (Prod.snd (Prod.snd (Prod.fst b)))) (Int.toNat x)
                                                    (((0 : Int), (0 : Int)), ((0 : Int), (0 : Int)), (0 : Int), (0 : Int)))),
                                              Prod.snd
                                                (Prod.fst
                                                  (List.getD (Prod.snd (Prod.snd (Prod.snd (Prod.fst b)))) (Int.toNat x)
                                                    (((0 : Int), (0 : Int)), ((0 : Int), (0 : Int)), (0 : Int), (0 : Int))))),
                                            Prod.fst
                                              (Prod.fst
                                                (Prod.snd
                                                  (List.getD (Prod.snd (Prod.snd (Prod.snd (Prod.fst b)))) (Int.toNat x)
                                                    (((0 : Int), (0 : Int)), ((0 : Int), (0 : Int)), (0 : Int), (0 : Int))))),
                                            Prod.snd
                                              (Prod.snd
                                                (Prod.snd
                                                  (List.getD (Prod.snd (Prod.snd (Prod.snd (Prod.fst b)))) (Int.toNat x)
                                                    (((0 : Int), (0 : Int)), ((0 : Int), (0 : Int)), (0 : Int), (0 : Int)))))) ::
                                          ([] : List ((Int × Int) × Int × Int))) <
                                  μ x x_1)
                        (Q (Prod.fst (Prod.fst x_1), Prod.snd (Prod.fst x_1), Prod.snd x_1)))
theorem v42 (b : (List (Int × Int) × List (Int × Int) × Int × List ((Int × Int) × (Int × Int) × Int × Int)) × List (Int × Int) × List (Int × Int)) (Q : List Int × List Int × List ((Int × Int) × Int × Int) → Prop) : V42 b Q = vcFunc (S1 [(70, f70_ct), (71, f71_ct), (72, f72_ct)] [] [] []) f42_ct.own f42_ct.fresh f42_an Try.f42 (bodyOf Try.f42) f42_ct.A f42_ct.C f42_ct.R b () Q := by kernel_rfl

def V135 (xs : List Int) (Q : Int → Prop) : Prop :=
  List.length xs ≤ (9223372036854775807 : Nat) →
    cnd (decide ((↑(List.length xs) : Int) < (1 : Int))) False
      ((0 : Int) ≤ (0 : Int) ∧
        (0 : Int) < (↑(List.length xs) : Int) ∧
          ∃ (I : Int → Int → Prop),
            ∃ (μ : Int → Int → Nat),
              I (1 : Int) (List.getD xs (Int.toNat (0 : Int)) (0 : Int)) ∧
                ∀ (x x_1 : Int),
                  I x x_1 →
                    List.length xs ≤ (9223372036854775807 : Nat) →
                      cnd (decide (x < (↑(List.length xs) : Int)))
                        ((0 : Int) ≤ x ∧
                          x < (↑(List.length xs) : Int) ∧
                            I (IntKind.wrap IntKind.i64 (x + (1 : Int))) (mxI x_1 (List.getD xs (Int.toNat x) (0 : Int))) ∧
                              μ (IntKind.wrap IntKind.i64 (x + (1 : Int))) (mxI x_1 (List.getD xs (Int.toNat x) (0 : Int))) < μ x x_1)
                        (Q x_1))
theorem v135 (xs : List Int) (Q : Int → Prop) : V135 xs Q = vcFunc (S1 [] [] [] []) f135_ct.own f135_ct.fresh f135_an Try.f135 (bodyOf Try.f135) f135_ct.A f135_ct.C f135_ct.R xs () Q := by kernel_rfl

def V136 (xs : List Int) (Q : Int → Prop) : Prop :=
  List.length xs ≤ (9223372036854775807 : Nat) →
    cnd (decide ((↑(List.length xs) : Int) < (1 : Int))) False
      ((0 : Int) ≤ (0 : Int) ∧
        (0 : Int) < (↑(List.length xs) : Int) ∧
          ∃ (I : Int → Int → Prop),
            ∃ (μ : Int → Int → Nat),
              I (1 : Int) (List.getD xs (Int.toNat (0 : Int)) (0 : Int)) ∧
                ∀ (x x_1 : Int),
                  I x x_1 →
                    List.length xs ≤ (9223372036854775807 : Nat) →
                      cnd (decide (x < (↑(List.length xs) : Int)))
                        ((0 : Int) ≤ x ∧
                          x < (↑(List.length xs) : Int) ∧
                            I (IntKind.wrap IntKind.i64 (x + (1 : Int))) (mnI x_1 (List.getD xs (Int.toNat x) (0 : Int))) ∧
                              μ (IntKind.wrap IntKind.i64 (x + (1 : Int))) (mnI x_1 (List.getD xs (Int.toNat x) (0 : Int))) < μ x x_1)
                        (Q x_1))
theorem v136 (xs : List Int) (Q : Int → Prop) : V136 xs Q = vcFunc (S1 [] [] [] []) f136_ct.own f136_ct.fresh f135_an Try.f136 (bodyOf Try.f136) f136_ct.A f136_ct.C f136_ct.R xs () Q := by kernel_rfl

def V107 (v : List Int × List Int × List ((Int × Int) × Int × Int)) (x : Int) (long : Int) (Q : Int × Int → Prop) : Prop :=
  (0 : Int) ≤ x ∧
    x ≤ IntKind.wrap IntKind.i64 (x + long) ∧
      IntKind.wrap IntKind.i64 (x + long) ≤ (↑(List.length (Prod.fst v)) : Int) ∧
        ∃ (r : Int),
          (f135_wp (List.drop (Int.toNat x) (List.take (Int.toNat (IntKind.wrap IntKind.i64 (x + long))) (Prod.fst v))) () fun (r' : Int) ↦ r' = r) ∧
            (0 : Int) ≤ x ∧
              x ≤ IntKind.wrap IntKind.i64 (x + long) ∧
                IntKind.wrap IntKind.i64 (x + long) ≤ (↑(List.length (Prod.fst (Prod.snd v))) : Int) ∧
                  ∃ (r_1 : Int),
                    (f136_wp (List.drop (Int.toNat x) (List.take (Int.toNat (IntKind.wrap IntKind.i64 (x + long))) (Prod.fst (Prod.snd v)))) ()
                        fun (r' : Int) ↦ r' = r_1) ∧
                      Q (r, r_1)
theorem v107 (v : List Int × List Int × List ((Int × Int) × Int × Int)) (x : Int) (long : Int) (Q : Int × Int → Prop) : V107 v x long Q = vcFunc (S1 [(135, f135_ct), (136, f136_ct)] [] [] []) f107_ct.own f107_ct.fresh no_an Try.f107 (bodyOf Try.f107) f107_ct.A f107_ct.C f107_ct.R (v, x, long, ()) () Q := by kernel_rfl

def V108 (v : List Int × List Int × List ((Int × Int) × Int × Int)) (x : Int) (long : Int) (y : Int) (wide : Int) (Q : Int × Bool × Unit → Prop) : Prop :=
  List.length (Prod.snd (Prod.snd v)) ≤ (9223372036854775807 : Nat) →
    ∃ (I : Int → Prop),
      ∃ (μ : Int → Nat),
        I (0 : Int) ∧
          ∀ (x_1 : Int),
            I x_1 →
              cnd (decide (x_1 < (↑(List.length (Prod.snd (Prod.snd v))) : Int)))
                ((0 : Int) ≤ x_1 ∧
                  x_1 < (↑(List.length (Prod.snd (Prod.snd v))) : Int) ∧
                    f133_wp
                      ((Prod.fst (Prod.fst (List.getD (Prod.snd (Prod.snd v)) (Int.toNat x_1) (((0 : Int), (0 : Int)), (0 : Int), (0 : Int)))),
                          Prod.snd (Prod.fst (List.getD (Prod.snd (Prod.snd v)) (Int.toNat x_1) (((0 : Int), (0 : Int)), (0 : Int), (0 : Int))))),
                        (x, IntKind.wrap IntKind.i64 (IntKind.wrap IntKind.i64 (x + long) - (1 : Int))), ())
                      () fun (r : Int × Int) ↦
                      cnd (decide (Prod.fst r ≤ Prod.snd r))
                        (cnd
                          (decide
                            (Prod.snd (Prod.snd (List.getD (Prod.snd (Prod.snd v)) (Int.toNat x_1) (((0 : Int), (0 : Int)), (0 : Int), (0 : Int)))) >
                              y))
                          (cnd
                            (decide
                              (Prod.fst (Prod.snd (List.getD (Prod.snd (Prod.snd v)) (Int.toNat x_1) (((0 : Int), (0 : Int)), (0 : Int), (0 : Int)))) <
                                IntKind.wrap IntKind.i64 (y + wide)))
                            (Q
                              (Prod.snd (Prod.snd (List.getD (Prod.snd (Prod.snd v)) (Int.toNat x_1) (((0 : Int), (0 : Int)), (0 : Int), (0 : Int)))),
                                true, ()))
                            (I (IntKind.wrap IntKind.i64 (x_1 + (1 : Int))) ∧ μ (IntKind.wrap IntKind.i64 (x_1 + (1 : Int))) < μ x_1))
                          (I (IntKind.wrap IntKind.i64 (x_1 + (1 : Int))) ∧ μ (IntKind.wrap IntKind.i64 (x_1 + (1 : Int))) < μ x_1))
                        (I (IntKind.wrap IntKind.i64 (x_1 + (1 : Int))) ∧ μ (IntKind.wrap IntKind.i64 (x_1 + (1 : Int))) < μ x_1))
                (Q ((0 : Int), false, ()))
theorem v108 (v : List Int × List Int × List ((Int × Int) × Int × Int)) (x : Int) (long : Int) (y : Int) (wide : Int) (Q : Int × Bool × Unit → Prop) : V108 v x long y wide Q = vcFunc (S1 [(133, f133_ct)] [] [] []) f108_ct.own f108_ct.fresh f108_an Try.f108 (bodyOf Try.f108) f108_ct.A f108_ct.C f108_ct.R (v, x, long, y, wide, ()) () Q := by kernel_rfl

def V73 (v : List Int × List Int × List ((Int × Int) × Int × Int)) (s : Int × Int × Int × Int) (x : Int) (Q : List Int → Prop) : Prop :=
  f107_wp ((Prod.fst v, Prod.fst (Prod.snd v), Prod.snd (Prod.snd v)), x, Prod.fst s, ()) () fun (r : Int × Int) ↦
    ∃ (I : Int → List Int → Prop),
      ∃ (μ : Int → List Int → Nat),
        I (Prod.fst r) ([] : List Int) ∧
          ∀ (x_1 : Int) (x_2 : List Int),
            I x_1 x_2 →
              cnd (decide (IntKind.wrap IntKind.i64 (x_1 + Prod.fst (Prod.snd s)) ≤ Prod.snd r))
                (f108_wp ((Prod.fst v, Prod.fst (Prod.snd v), Prod.snd (Prod.snd v)), x, Prod.fst s, x_1, Prod.fst (Prod.snd s), ()) ()
                  fun (r : Int × Bool × Unit) ↦
                  cnd (Prod.fst (Prod.snd r)) (I (Prod.fst r) x_2 ∧ μ (Prod.fst r) x_2 < μ x_1 x_2)
                    ((List.length x_2 + List.length (x_1 :: ([] : List Int))) * (8 : Nat) ≤ (140737488355328 : Nat) ∧
                      I (IntKind.wrap IntKind.i64 (x_1 + IntKind.wrap IntKind.i64 (Prod.fst (Prod.snd s) + Prod.fst (Prod.snd (Prod.snd s)))))
                          (x_2 ++ x_1 :: ([] : List Int)) ∧
                        μ (IntKind.wrap IntKind.i64 (x_1 + IntKind.wrap IntKind.i64 (Prod.fst (Prod.snd s) + Prod.fst (Prod.snd (Prod.snd s)))))
                            (x_2 ++ x_1 :: ([] : List Int)) <
                          μ x_1 x_2))
                (Q x_2)
theorem v73 (v : List Int × List Int × List ((Int × Int) × Int × Int)) (s : Int × Int × Int × Int) (x : Int) (Q : List Int → Prop) : V73 v s x Q = vcFunc (S1 [(107, f107_ct), (108, f108_ct)] [] [] []) f73_ct.own f73_ct.fresh f73_an Try.f73 (bodyOf Try.f73) f73_ct.A f73_ct.C f73_ct.R (v, s, x, ()) () Q := by kernel_rfl

def V35 (b : List (Int × Int) × List (Int × Int) × Int × List ((Int × Int) × (Int × Int) × Int × Int)) (s : Int × Int × Int × Int) (Q : List (Int × Int) × Int × Unit → Prop) : Prop :=
  f40_wp
    ((Prod.fst b, Prod.fst (Prod.snd b), Prod.fst (Prod.snd (Prod.snd b)), Prod.snd (Prod.snd (Prod.snd b))),
      (Prod.fst s, Prod.fst (Prod.snd s), Prod.fst (Prod.snd (Prod.snd s)), Prod.snd (Prod.snd (Prod.snd s))), ())
    ()
    fun
      (r :
        ((List (Int × Int) × List (Int × Int) × Int × List ((Int × Int) × (Int × Int) × Int × Int)) × List (Int × Int) × List (Int × Int)) ×
          Int × Unit) ↦
    cnd (Prod.fst (Prod.snd r) != (0 : Int)) (Q (([] : List (Int × Int)), Prod.fst (Prod.snd r), ()))
      (∃ (r_1 : List Int × List Int × List ((Int × Int) × Int × Int)),
        (f42_wp
            ((Prod.fst (Prod.fst (Prod.fst r)), Prod.fst (Prod.snd (Prod.fst (Prod.fst r))), Prod.fst (Prod.snd (Prod.snd (Prod.fst (Prod.fst r)))),
                Prod.snd (Prod.snd (Prod.snd (Prod.fst (Prod.fst r))))),
              Prod.fst (Prod.snd (Prod.fst r)), Prod.snd (Prod.snd (Prod.fst r)))
            () fun (r' : List Int × List Int × List ((Int × Int) × Int × Int)) ↦ r' = r_1) ∧
          ∃ (r : List (Int × Int)),
            (f44_wp
                ((Prod.fst r_1, Prod.fst (Prod.snd r_1), Prod.snd (Prod.snd r_1)),
                  (Prod.fst s, Prod.fst (Prod.snd s), Prod.fst (Prod.snd (Prod.snd s)), Prod.snd (Prod.snd (Prod.snd s))), ())
                () fun (r' : List (Int × Int)) ↦ r' = r) ∧
              Q (r, (0 : Int), ()))
theorem v35 (b : List (Int × Int) × List (Int × Int) × Int × List ((Int × Int) × (Int × Int) × Int × Int)) (s : Int × Int × Int × Int) (Q : List (Int × Int) × Int × Unit → Prop) : V35 b s Q = vcFunc (S1 [(40, f40_ct), (42, f42_ct), (44, f44_ct)] [] [] []) f35_ct.own f35_ct.fresh no_an Try.f35 (bodyOf Try.f35) f35_ct.A f35_ct.C f35_ct.R (b, s, ()) () Q := by kernel_rfl

end Go.Proofs.Tq
set_option maxRecDepth 100000
set_option linter.unusedVariables false
namespace Go.Proofs.Tq
open Go Go.GX

theorem p69 {n lo hi : Int} {Q : Bool → Prop} (h : f69_wp n (lo, hi, ()) Q) : V69 n lo hi Q := p67 h
theorem p41 {lo hi : Int} {xs : List Int} {Q : Bool → Prop} (h : f41_wp (lo, hi, xs, ()) () Q) : V41 lo hi xs Q := p37 h
theorem in41 {lo hi x : Int} {K : Bool → Prop} (h : K (inB lo hi x)) : f41_wp (lo, hi, [x], ()) () K := in37 h
theorem in41b {lo hi x y : Int} {K : Bool → Prop} (h : K (inB lo hi x && inB lo hi y)) : f41_wp (lo, hi, [x, y], ()) () K := by
  show K ([x, y].all (inB lo hi))
  rw [show [x, y].all (inB lo hi) = (inB lo hi x && inB lo hi y) by simp]; exact h
theorem p158 {s : Span} {lo hi : Int} {Q : Bool → Prop} (h : f158_wp (s, lo, hi, ()) () Q) : V158 s lo hi Q := by
  have h : Q (spanB lo hi s) := h
  unfold spanB at h
  refine in41b (cnd_iff.2 ⟨fun e => ?_, fun e => ?_⟩)
  · rw [e, Bool.true_and] at h; exact h
  · rw [e, Bool.false_and] at h; exact h
theorem p159 {s : Span} {Q : Bool → Prop} (h : f159_wp s () Q) : V159 s Q := h
theorem p131 {b t : Span} {Q : Bool → Prop} (h : f131_wp (b, t, ()) () Q) : V131 b t Q := by
  have h : Q (edgesB b t) := h
  unfold edgesB at h
  show cnd (spanB 0 300 b) (cnd (spanB 0 300 t) (Q (decide (b.2 ≤ t.1))) (Q false)) (Q false)
  refine cnd_iff.2 ⟨fun e => cnd_iff.2 ⟨fun e2 => ?_, fun e2 => ?_⟩, fun e => ?_⟩
  · rw [e, e2] at h; exact h
  · rw [e, e2] at h; exact h
  · rw [e] at h; exact h
theorem inB_iff {lo hi x : Int} : inB lo hi x = true ↔ lo ≤ x ∧ x ≤ hi := by simp [inB]
theorem spanB_iff {lo hi : Int} {s : Span} : spanB lo hi s = true ↔ (lo ≤ s.1 ∧ s.1 ≤ hi) ∧ (lo ≤ s.2 ∧ s.2 ≤ hi) ∧ s.1 ≤ s.2 := by
  simp only [spanB, Bool.and_eq_true, inB_iff, decide_eq_true_eq, and_assoc]
theorem p130 {c : Crack} {n : Int} {Q : Bool → Prop} (h : f130_wp (c, n, ()) () Q) : V130 c n Q := by
  obtain ⟨⟨h1, h2⟩, h⟩ := h
  have h1 : 1 ≤ n := h1
  have h2 : n ≤ 30 := h2
  have h : Q (crackB n c) := h
  unfold crackB at h
  show cnd (spanB 0 (IntKind.wrap .i64 (n - 1)) c.1) (cnd (decide (IntKind.wrap .i64 (c.1.2 - c.1.1) < 5)) (Q (edgesB c.2.1 c.2.2)) (Q false)) (Q false)
  rw [wrapS (x := n - 1) (by omega) (by omega)]
  refine cnd_iff.2 ⟨fun e => ?_, fun e => ?_⟩
  · have hs := spanB_iff.1 e
    rw [wrapS (x := c.1.2 - c.1.1) (by omega) (by omega)]
    rw [e] at h
    refine cnd_iff.2 ⟨fun e2 => ?_, fun e2 => ?_⟩
    · rw [e2] at h; exact h
    · rw [e2] at h; exact h
  · rw [e] at h; exact h
theorem p129 {c : Crack} {n : Int} {Q : Bool → Prop} (h : f129_wp c (n, ()) Q) : V129 c n Q := h
theorem p157 {xs : List Crack} {f : Crack → (Bool → Prop) → Prop} {Q : Int → Prop} (h : f157_wp (xs, f, ()) () Q) : V157 xs f Q := by
  obtain ⟨p, hs, hq⟩ := h
  intro hl
  exact idx_loop hs hq hl
theorem p128 {xs : List Crack} {f : Crack → (Bool → Prop) → Prop} {Q : Bool → Prop} (h : f128_wp (xs, f, ()) () Q) : V128 xs f Q := by
  obtain ⟨p, hs, hq⟩ := h
  refine ⟨p, hs, ?_⟩
  show Q (decide (idxF p xs ≥ 0))
  rw [idxF_ge]; exact hq
theorem edges_ok {b : Blade} (hb : BladeOK b) {k : Nat} (hk : k < b.1.length) : edgesB (b.1.getD k (0, 0)) (b.2.1.getD k (0, 0)) = true := by
  obtain ⟨a1, a2, a3⟩ := hb.bo _ (getD_mem (d := ((0, 0) : Span)) hk)
  have hk2 : k < b.2.1.length := by rw [hb.nt]; exact hk
  obtain ⟨c1, c2, c3⟩ := hb.to _ (getD_mem (d := ((0, 0) : Span)) hk2)
  unfold edgesB
  rw [spanB_iff.2 ⟨⟨by omega, by omega⟩, ⟨by omega, by omega⟩, by omega⟩, spanB_iff.2 ⟨⟨by omega, by omega⟩, ⟨by omega, by omega⟩, by omega⟩]
  simp only [Bool.true_and, decide_eq_true_eq]; omega
theorem p105 {b : Blade} {Q : Int → Prop} (h : f105_wp b () Q) : V105 b Q := by
  obtain ⟨hb, h⟩ := h
  have n1 := hb.n1
  have n2 := hb.n2
  have nt := hb.nt
  have nc := hb.nc
  have be := hb.be
  intro hl hl2
  rw [nt]
  refine cnd_iff.2 ⟨fun e => by simp at e, fun _ => ?_⟩
  refine in41 (K := fun r => cnd (!r) _ _) ?_
  rw [inB_iff.2 ⟨by omega, by omega⟩]
  intro hl3
  refine cnd_iff.2 ⟨fun e => absurd (of_decide_eq_true e) (by omega), fun _ => ?_⟩
  refine in41 (K := fun r => cnd (!r) _ _) ?_
  rw [inB_iff.2 ⟨by omega, by omega⟩]
  refine ⟨fun c => !crackB (b.1.length : Int) c, fun c _ Q h => ⟨⟨by show (1 : Int) ≤ (b.1.length : Int); omega, by show (b.1.length : Int) ≤ 30; omega⟩, h⟩, ?_⟩
  have hany : (b.2.2.2.any fun c => !crackB (b.1.length : Int) c) = false := by
    rw [List.any_eq_false]
    intro c hc
    rw [hb.cr c hc]; simp
  show cnd (b.2.2.2.any fun c => !crackB (b.1.length : Int) c) _ _
  rw [hany]
  refine forUpG (n := b.1.length) (by omega) (fun _ => True) trivial
    (body := fun I μ x => 0 ≤ x ∧ x < (b.1.length : Int) ∧ 0 ≤ x ∧ x < (b.1.length : Int) ∧ ∃ r : Bool, (f131_wp (((b.1.getD x.toNat (0, 0)).1, (b.1.getD x.toNat (0, 0)).2), ((b.2.1.getD x.toNat (0, 0)).1, (b.2.1.getD x.toNat (0, 0)).2), ()) () fun r' => r' = r) ∧ cnd (!r) (Q 2) (I (IntKind.wrap .i64 (x + 1)) ∧ μ (IntKind.wrap .i64 (x + 1)) < μ x)) ?_ (e := fun _ => Q 0) (fun _ => h)
  intro k hk _ I μ hI hw
  refine ⟨by omega, by omega, by omega, by omega, true, ?_, ?_⟩
  · show edgesB (b.1.getD (Int.toNat (k : Int)) (0, 0)) (b.2.1.getD (Int.toNat (k : Int)) (0, 0)) = true
    exact edges_ok hb hk
  · rw [hw]; exact hI trivial
theorem mnI_min5 (a b : Int) : mnI a b = min a b := by
  unfold mnI; rw [Int.min_def]; split <;> split <;> omega
theorem mxI_max (a b : Int) : mxI a b = max a b := by
  unfold mxI; rw [Int.max_def]; split <;> split <;> omega
theorem p133 {a b : Span} {Q : Span → Prop} (h : f133_wp (a, b, ()) () Q) : V133 a b Q := by
  have h : Q (max a.1 b.1, min a.2 b.2) := h
  show Q (mxI a.1 b.1, mnI a.2 b.2)
  rw [mxI_max, mnI_min5]; exact h
theorem p132 {xs : List Span} {Q : List Span → Prop} (h : f132_wp xs () Q) : V132 xs Q := by
  obtain ⟨hl, h⟩ := h
  intro b hb
  refine cnd_iff.2 ⟨fun h1 => ?_, fun h1 => ⟨?_, h⟩⟩
  · rw [hb h1] at h; exact h
  · simp only [List.length_nil, Nat.zero_add]; omega

theorem swap_rev {α : Type} (d : α) (ys : List α) (i : Nat) (zs : List α) (hi : 2 * i + 1 < ys.length) (hz : zs.length = ys.length)
    (h : ∀ k, k < ys.length → zs.getD k d = if k < i ∨ ys.length - 1 - i < k then ys.getD (ys.length - 1 - k) d else ys.getD k d) :
    ∀ k, k < ys.length → ((zs.set i (zs.getD (ys.length - 1 - i) d)).set (ys.length - 1 - i) (zs.getD i d)).getD k d = if k < i + 1 ∨ ys.length - 1 - (i + 1) < k then ys.getD (ys.length - 1 - k) d else ys.getD k d := by
  intro k hk
  have hg : ∀ (l : List α) (a : Nat) (v : α) (j : Nat), j < l.length → (l.set a v).getD j d = if a = j then v else l.getD j d := by
    intro l a v j hj
    rw [List.getD_eq_getElem?_getD, List.getD_eq_getElem?_getD, List.getElem?_set]
    by_cases ha : a = j
    · subst ha; simp [hj]
    · simp [ha]
  rw [hg _ _ _ _ (by rw [List.length_set]; omega), hg _ _ _ _ (by omega)]
  by_cases h1 : ys.length - 1 - i = k
  · rw [if_pos h1, if_pos (by omega), h i (by omega), if_neg (by omega)]
    congr 1; omega
  · rw [if_neg h1]
    by_cases h2 : i = k
    · rw [if_pos h2, if_pos (by omega), h _ (by omega), if_neg (by omega)]
      congr 1; omega
    · rw [if_neg h2, h k hk]
      by_cases h3 : k < i ∨ ys.length - 1 - i < k
      · rw [if_pos h3, if_pos (by omega)]
      · rw [if_neg h3, if_neg (by omega)]
theorem ext_getD {α : Type} (d : α) {a b : List α} (hl : a.length = b.length) (h : ∀ k, k < a.length → a.getD k d = b.getD k d) : a = b := by
  refine List.ext_getElem hl fun k h1 h2 => ?_
  have := h k h1
  rwa [getD_lt h1, getD_lt h2] at this
theorem getD_rev {α : Type} (d : α) (ys : List α) {k : Nat} (hk : k < ys.length) : ys.reverse.getD k d = ys.getD (ys.length - 1 - k) d := by
  rw [getD_lt (by rw [List.length_reverse]; exact hk), getD_lt (by omega), List.getElem_reverse]
theorem p134 {ys : List Span} {Q : Unit → List Span → Prop} (h : f134_wp ys () () Q) : V134 ys Q := by
  obtain ⟨hl, h⟩ := h
  intro _
  rw [wrapS (by omega) (by omega)]
  refine ⟨fun x y zs => ∃ i : Nat, x = i ∧ y = (ys.length : Int) - 1 - i ∧ 2 * i ≤ ys.length + 1 ∧ zs.length = ys.length ∧ ∀ k, k < ys.length → zs.getD k (0, 0) = if k < i ∨ (ys.length : Int) - 1 - i < k then ys.getD (ys.length - 1 - k) (0, 0) else ys.getD k (0, 0), fun x _ _ => (ys.length - x).toNat, ⟨0, rfl, by simp, by omega, rfl, fun k hk => by rw [if_neg (by omega)]⟩, ?_⟩
  rintro _ _ zs ⟨i, rfl, rfl, hi, hz, hg⟩
  refine cnd_iff.2 ⟨fun e => ?_, fun e => ?_⟩
  · have e : (i : Int) < (ys.length : Int) - 1 - i := of_decide_eq_true e
    have hn : ((ys.length : Int) - 1 - i).toNat = ys.length - 1 - i := by omega
    rw [wrapS (x := (i : Int) + 1) (by omega) (by omega), wrapS (by omega) (by omega), hn]
    refine ⟨by omega, by omega, by omega, by omega, by omega, by omega, by omega, by rw [List.length_set]; omega, ⟨i + 1, by push_cast; rfl, by push_cast; omega, by omega, by simp only [List.length_set]; exact hz, ?_⟩, by show ((ys.length : Int) - ((i : Int) + 1)).toNat < ((ys.length : Int) - (i : Int)).toNat; omega⟩
    intro k hk
    have hg' : ∀ k, k < ys.length → zs.getD k ((0, 0) : Span) = if k < i ∨ ys.length - 1 - i < k then ys.getD (ys.length - 1 - k) (0, 0) else ys.getD k (0, 0) := by
      intro k hk
      rw [hg k hk]
      by_cases h3 : k < i ∨ ys.length - 1 - i < k
      · rw [if_pos h3, if_pos (by omega)]
      · rw [if_neg h3, if_neg (by omega)]
    have := swap_rev ((0, 0) : Span) ys i zs (by omega) hz hg' k hk
    refine Eq.trans this ?_
    by_cases h3 : k < i + 1 ∨ ys.length - 1 - (i + 1) < k
    · rw [if_pos h3, if_pos (by omega)]
    · rw [if_neg h3, if_neg (by omega)]
  · have e : ¬ (i : Int) < (ys.length : Int) - 1 - i := of_decide_eq_false e
    have : zs = ys.reverse := by
      refine ext_getD ((0, 0) : Span) (by rw [hz, List.length_reverse]) fun k hk => ?_
      rw [getD_rev _ _ (by omega), hg k (by omega)]
      by_cases h3 : k < i ∨ (ys.length : Int) - 1 - i < k
      · rw [if_pos h3]
      · rw [if_neg h3]
        congr 1; omega
    rw [this]; exact h
end Go.Proofs.Tq
set_option maxRecDepth 100000
set_option linter.unusedVariables false
namespace Go.Proofs.Tq
open Go Go.GX

theorem set_same {α : Type} {d : α} {l : List α} {k : Nat} (hk : k < l.length) : l.set k (l.getD k d) = l := by
  rw [getD_lt hk]; exact List.set_getElem_self hk
theorem p106 {l : List Span} {bend : Int} {Q : List Span × Bool × Unit → Prop} (h : f106_wp (l, bend, ()) () Q) : V106 l bend Q := by
  obtain ⟨⟨h1, h2, h3⟩, h⟩ := h
  have h1 : bend = 300 := h1
  subst h1
  have h2 : l.length ≤ 30 := h2
  have h3 : ∀ s, s ∈ l → 0 ≤ s.1 ∧ s.1 ≤ s.2 ∧ s.2 ≤ 110 := h3
  have h : Q (l, true, ()) := h
  refine ⟨by show l.length ≤ 1000000; omega, ?_⟩
  refine ⟨fun x ys => ∃ k : Nat, k ≤ 2 ∧ x = k ∧ ys = (if k % 2 = 0 then l else l.reverse), fun x _ => (2 - x).toNat, ⟨0, by omega, rfl, rfl⟩, ?_⟩
  rintro _ ys ⟨k, hk, rfl, hys⟩
  have hlen : ys.length = l.length := by rw [hys]; split <;> simp
  have hmem : ∀ s, s ∈ ys → 0 ≤ s.1 ∧ s.1 ≤ s.2 ∧ s.2 ≤ 110 := by
    intro s hs
    rw [hys] at hs
    split at hs
    · exact h3 s hs
    · exact h3 s (List.mem_reverse.1 hs)
  refine cnd_iff.2 ⟨fun e => ?_, fun e => ?_⟩
  · have e : (k : Int) < 2 := of_decide_eq_true e
    rw [wrapS (x := (k : Int) + 1) (by omega) (by omega)]
    refine ⟨fun i zs => ∃ j : Nat, i = j ∧ 1 ≤ j ∧ (j ≤ ys.length ∨ j = 1) ∧ ys = zs, fun i _ => (1 + ys.length - i).toNat, ⟨1, rfl, by omega, by omega, rfl⟩, ?_⟩
    rintro _ _ ⟨j, rfl, hj1, hj2, rfl⟩ _
    refine cnd_iff.2 ⟨fun e2 => ?_, fun e2 => ?_⟩
    · have e2 : (j : Int) < (ys.length : Int) := of_decide_eq_true e2
      have hp : ((j : Int) - 1).toNat = j - 1 := by omega
      obtain ⟨a1, a2, a3⟩ := hmem _ (getD_mem (d := ((0, 0) : Span)) (show j < ys.length by omega))
      obtain ⟨b1, b2, b3⟩ := hmem _ (getD_mem (d := ((0, 0) : Span)) (show j - 1 < ys.length by omega))
      rw [wrapS (x := (j : Int) - 1) (by omega) (by omega), hp]
      have hj : (j : Int).toNat = j := rfl
      have hset : List.set ys (j : Int).toNat ((ys.getD j ((0, 0) : Span)).1, (ys.getD j ((0, 0) : Span)).2) = ys := by
        show ys.set j (ys.getD j ((0, 0) : Span)) = ys
        exact set_same (by omega)
      refine ⟨by omega, by omega, by omega, by omega, ys.getD j (0, 0), ?_, by omega, by omega, by omega, ?_, by omega, ?_, ?_⟩
      · show meetF (ys.getD (j : Int).toNat ((0, 0) : Span)) (IntKind.wrap .i64 ((ys.getD (j - 1) ((0, 0) : Span)).1 - 300), IntKind.wrap .i64 ((ys.getD (j - 1) ((0, 0) : Span)).2 + 300)) = ys.getD j (0, 0)
        rw [wrapS (by omega) (by omega), wrapS (by omega) (by omega)]
        show (max (ys.getD j ((0, 0) : Span)).1 _, min (ys.getD j ((0, 0) : Span)).2 _) = ys.getD j (0, 0)
        rw [Int.max_eq_left (by omega), Int.min_eq_left (by omega)]
      · rw [List.length_set]; omega
      · rw [List.length_set]; omega
      · refine cnd_iff.2 ⟨fun e3 => ?_, fun _ => ?_⟩
        · rw [hset] at e3
          have := of_decide_eq_true e3
          rw [hj] at this
          omega
        · rw [wrapS (x := (j : Int) + 1) (by omega) (by omega)]
          refine ⟨⟨j + 1, by push_cast; rfl, by omega, by omega, hset.symm⟩, ?_⟩
          show (1 + (ys.length : Int) - ((j : Int) + 1)).toNat < (1 + (ys.length : Int) - (j : Int)).toNat
          omega
    · refine ⟨by show ys.length ≤ 1000000; omega, ⟨k + 1, by omega, by push_cast; rfl, ?_⟩, by show (2 - ((k : Int) + 1)).toNat < (2 - (k : Int)).toNat; omega⟩
      rw [hys]
      by_cases hk2 : k % 2 = 0
      · rw [if_pos hk2, if_neg (by omega)]
      · rw [if_neg hk2, if_pos (by omega), List.reverse_reverse]
  · have e : ¬ (k : Int) < 2 := of_decide_eq_false e
    have hk2 : k = 2 := by omega
    subst hk2
    have hys : ys = l := hys
    rw [hys]; exact h
theorem p68 {b : Blade} {Q : Opened × Int × Unit → Prop} (h : f68_wp b () Q) : V68 b Q := by
  obtain ⟨hb, h⟩ := h
  have n2 := hb.n2
  have nt := hb.nt
  refine ⟨hb, ?_⟩
  show cnd ((0 : Int) != 0) _ _
  refine cnd_iff.2 ⟨fun e => by simp at e, fun _ => ?_⟩
  refine ⟨⟨hb.be, by show b.1.length ≤ 30; omega, fun s hs => ?_⟩, ⟨hb.be, by show b.2.1.length ≤ 30; omega, fun s hs => ?_⟩, ?_⟩
  · obtain ⟨a1, a2, a3⟩ := hb.bo s hs
    exact ⟨a1, a2, by omega⟩
  · obtain ⟨a1, a2, a3⟩ := hb.to s hs
    exact ⟨by omega, a2, a3⟩
  · exact h
theorem p40 {b : Blade} {s : Saw} {Q : Opened × Int × Unit → Prop} (h : f40_wp (b, s, ()) () Q) : V40 b s Q := by
  obtain ⟨⟨hb, hs⟩, h⟩ := h
  have hs : SawOK s := hs
  obtain ⟨l1, l2, w1, w2, k1, k2, a1, a2⟩ := hs
  refine ⟨hb, ?_⟩
  show cnd ((0 : Int) == 0) _ _
  refine cnd_iff.2 ⟨fun _ => ?_, fun e => by simp at e⟩
  refine in41 (K := fun r => cnd (!r) _ _) ?_
  rw [inB_iff.2 ⟨by omega, by omega⟩]
  refine in41 (K := fun r => cnd (!r) _ _) ?_
  rw [inB_iff.2 ⟨by omega, by omega⟩]
  refine in41b (K := fun r => cnd (!r) _ _) ?_
  rw [inB_iff.2 ⟨by omega, by omega⟩, inB_iff.2 ⟨by omega, by omega⟩]
  exact h
theorem p71 {s : Span} {Q : Int → Prop} (h : f71_wp s () Q) : V71 s Q := h
theorem p72 {s : Span} {Q : Int → Prop} (h : f72_wp s () Q) : V72 s Q := h
theorem map_snoc {α β : Type} (d : α) (p : α → β) (l : List α) {k : Nat} (hk : k < l.length) : (l.take k).map p ++ [p (l.getD k d)] = (l.take (k + 1)).map p := by
  rw [getD_lt hk, List.take_succ_eq_append_getElem hk, List.map_append]; rfl
theorem p70 {l : List Span} {f : Span → (Int → Prop) → Prop} {Q : List Int → Prop} (h : f70_wp (l, f, ()) () Q) : V70 l f Q := by
  obtain ⟨h1, p, hs, h⟩ := h
  have h1 : l.length ≤ 30 := h1
  have hs : Says f p l := hs
  have h : Q (l.map p) := h
  intro _
  refine forUp (n := l.length) (by omega) (fun k => (l.take k).map p) rfl
    (body := fun I μ x acc => 0 ≤ x ∧ x < (l.length : Int) ∧ f ((l.getD x.toNat (0, 0)).1, (l.getD x.toNat (0, 0)).2) fun r => (acc.length + [r].length) * 8 ≤ 140737488355328 ∧ I (IntKind.wrap .i64 (x + 1)) (acc ++ [r]) ∧ μ (IntKind.wrap .i64 (x + 1)) (acc ++ [r]) < μ x acc) ?_ (e := fun _ acc => Q acc) (by rw [List.take_length]; exact h)
  intro k hk I μ hI hw
  refine ⟨by omega, by omega, hs (l.getD k (0, 0)) (getD_mem hk) _ ?_⟩
  rw [hw, map_snoc ((0, 0) : Span) p l hk]
  exact ⟨by simp only [List.length_map, List.length_take, List.length_cons, List.length_nil]; omega, hI⟩
theorem p42 {b : Opened} {Q : View → Prop} (h : f42_wp b () Q) : V42 b Q := by
  obtain ⟨⟨h1, h2, h3⟩, h⟩ := h
  have h : Q (sureF b) := h
  refine ⟨b.2.1.map (·.2), ⟨h1, fun s => s.2, fun x _ Q h => h, rfl⟩, b.2.2.map (·.1), ⟨h2, fun s => s.1, fun x _ Q h => h, rfl⟩, fun _ => ?_⟩
  obtain ⟨cr, hcr⟩ : ∃ cr, cr = b.1.2.2.2 := ⟨_, rfl⟩
  have h3 : cr.length ≤ 4 := by rw [hcr]; exact h3
  have h : Q (b.2.1.map (·.2), b.2.2.map (·.1), cr.map fun c => (c.1, (c.2.1.1, c.2.2.2))) := by rw [hcr]; exact h
  rw [← hcr]
  refine forUp (n := cr.length) (by omega) (fun k => ((b.2.1.map (·.2), b.2.2.map (·.1)), (cr.take k).map fun c => (c.1, (c.2.1.1, c.2.2.2)))) rfl
    (body := fun I μ x st => 0 ≤ x ∧ x < (cr.length : Int) ∧ (st.2.length + [(((cr.getD x.toNat ((0, 0), (0, 0), 0, 0)).1.1, (cr.getD x.toNat ((0, 0), (0, 0), 0, 0)).1.2), (cr.getD x.toNat ((0, 0), (0, 0), 0, 0)).2.1.1, (cr.getD x.toNat ((0, 0), (0, 0), 0, 0)).2.2.2)].length) * 32 ≤ 140737488355328 ∧
      I (IntKind.wrap .i64 (x + 1)) ((st.1.1, st.1.2), st.2 ++ [(((cr.getD x.toNat ((0, 0), (0, 0), 0, 0)).1.1, (cr.getD x.toNat ((0, 0), (0, 0), 0, 0)).1.2), (cr.getD x.toNat ((0, 0), (0, 0), 0, 0)).2.1.1, (cr.getD x.toNat ((0, 0), (0, 0), 0, 0)).2.2.2)]) ∧
      μ (IntKind.wrap .i64 (x + 1)) ((st.1.1, st.1.2), st.2 ++ [(((cr.getD x.toNat ((0, 0), (0, 0), 0, 0)).1.1, (cr.getD x.toNat ((0, 0), (0, 0), 0, 0)).1.2), (cr.getD x.toNat ((0, 0), (0, 0), 0, 0)).2.1.1, (cr.getD x.toNat ((0, 0), (0, 0), 0, 0)).2.2.2)]) < μ x st)
    ?_ (e := fun _ st => Q (st.1.1, st.1.2, st.2)) (by rw [List.take_length]; exact h)
  intro k hk I μ hI hw
  have := map_snoc ((((0, 0) : Span), ((0, 0) : Span), ((0, 0) : Span)) : Crack) (fun c : Crack => ((c.1, (c.2.1.1, c.2.2.2)) : Spoil)) cr hk
  refine ⟨by omega, by omega, ?_, ?_⟩
  · simp only [List.length_map, List.length_take, List.length_cons, List.length_nil]; omega
  · rw [hw]
    rw [← this] at hI
    exact hI
theorem maxL_step (xs : List Int) {k : Nat} (h1 : 1 ≤ k) (hk : k < xs.length) : max (maxL (xs.take k)) (xs.getD k 0) = maxL (xs.take (k + 1)) := by
  unfold maxL
  rw [List.drop_take, List.drop_take, show k + 1 - 1 = k - 1 + 1 by omega, List.take_succ_eq_append_getElem (l := xs.drop 1) (by rw [List.length_drop]; omega), List.foldl_append]
  have e1 : (xs.take k).getD 0 0 = xs.getD 0 0 := by simp [List.getD_eq_getElem?_getD, List.getElem?_take, show 0 < k by omega]
  have e2 : (xs.take (k + 1)).getD 0 0 = xs.getD 0 0 := by simp [List.getD_eq_getElem?_getD, List.getElem?_take]
  rw [e1, e2, getD_lt hk]
  simp only [List.foldl_cons, List.foldl_nil, List.getElem_drop]
  congr 2; omega
theorem minL_step (xs : List Int) {k : Nat} (h1 : 1 ≤ k) (hk : k < xs.length) : min (minL (xs.take k)) (xs.getD k 0) = minL (xs.take (k + 1)) := by
  unfold minL
  rw [List.drop_take, List.drop_take, show k + 1 - 1 = k - 1 + 1 by omega, List.take_succ_eq_append_getElem (l := xs.drop 1) (by rw [List.length_drop]; omega), List.foldl_append]
  have e1 : (xs.take k).getD 0 0 = xs.getD 0 0 := by simp [List.getD_eq_getElem?_getD, List.getElem?_take, show 0 < k by omega]
  have e2 : (xs.take (k + 1)).getD 0 0 = xs.getD 0 0 := by simp [List.getD_eq_getElem?_getD, List.getElem?_take]
  rw [e1, e2, getD_lt hk]
  simp only [List.foldl_cons, List.foldl_nil, List.getElem_drop]
  congr 2; omega
theorem take_one0 (xs : List Int) (h : 1 ≤ xs.length) : maxL (xs.take 1) = xs.getD 0 0 ∧ minL (xs.take 1) = xs.getD 0 0 := by
  cases xs with
  | nil => simp at h
  | cons x r => exact ⟨rfl, rfl⟩
theorem p135 {xs : List Int} {Q : Int → Prop} (h : f135_wp xs () Q) : V135 xs Q := by
  obtain ⟨h1, h⟩ := h
  intro hl
  refine cnd_iff.2 ⟨fun e => absurd (of_decide_eq_true e) (by omega), fun _ => ⟨by omega, by omega, ?_⟩⟩
  refine ⟨fun x m => ∃ k : Nat, x = k ∧ 1 ≤ k ∧ k ≤ xs.length ∧ m = maxL (xs.take k), fun x _ => (xs.length - x).toNat, ⟨1, rfl, by omega, h1, (take_one0 xs h1).1.symm⟩, ?_⟩
  rintro _ _ ⟨k, rfl, h1, h2, rfl⟩ _
  refine cnd_iff.2 ⟨fun e => ?_, fun e => ?_⟩
  · have e : (k : Int) < (xs.length : Int) := of_decide_eq_true e
    rw [wrapS (x := (k : Int) + 1) (by omega) (by omega), mxI_max]
    refine ⟨by omega, by omega, ⟨k + 1, by push_cast; rfl, by omega, by omega, maxL_step xs h1 (by omega)⟩, ?_⟩
    show ((xs.length : Int) - ((k : Int) + 1)).toNat < ((xs.length : Int) - (k : Int)).toNat
    omega
  · have e : ¬ (k : Int) < (xs.length : Int) := of_decide_eq_false e
    rw [show k = xs.length by omega, List.take_length]; exact h
theorem p136 {xs : List Int} {Q : Int → Prop} (h : f136_wp xs () Q) : V136 xs Q := by
  obtain ⟨h1, h⟩ := h
  intro hl
  refine cnd_iff.2 ⟨fun e => absurd (of_decide_eq_true e) (by omega), fun _ => ⟨by omega, by omega, ?_⟩⟩
  refine ⟨fun x m => ∃ k : Nat, x = k ∧ 1 ≤ k ∧ k ≤ xs.length ∧ m = minL (xs.take k), fun x _ => (xs.length - x).toNat, ⟨1, rfl, by omega, h1, (take_one0 xs h1).2.symm⟩, ?_⟩
  rintro _ _ ⟨k, rfl, h1, h2, rfl⟩ _
  refine cnd_iff.2 ⟨fun e => ?_, fun e => ?_⟩
  · have e : (k : Int) < (xs.length : Int) := of_decide_eq_true e
    rw [wrapS (x := (k : Int) + 1) (by omega) (by omega), mnI_min5]
    refine ⟨by omega, by omega, ⟨k + 1, by push_cast; rfl, by omega, by omega, minL_step xs h1 (by omega)⟩, ?_⟩
    show ((xs.length : Int) - ((k : Int) + 1)).toNat < ((xs.length : Int) - (k : Int)).toNat
    omega
  · have e : ¬ (k : Int) < (xs.length : Int) := of_decide_eq_false e
    rw [show k = xs.length by omega, List.take_length]; exact h
theorem slice_eq (l : List Int) {x long : Int} (h1 : 0 ≤ x) (h2 : 1 ≤ long) : List.drop x.toNat (List.take (x + long).toNat l) = (l.drop x.toNat).take long.toNat := by
  rw [List.drop_take, show (x + long).toNat - x.toNat = long.toNat by omega]
theorem p107 {v : View} {x long : Int} {Q : Span → Prop} (h : f107_wp (v, x, long, ()) () Q) : V107 v x long Q := by
  obtain ⟨⟨hv, h1, h2, h3⟩, h⟩ := h
  have hv : ViewOK v := hv
  have h1 : 0 ≤ x := h1
  have h2 : 1 ≤ long := h2
  have h3 : x + long ≤ (v.1.length : Int) := h3
  have h : Q (roomF v x long) := h
  have n := hv.n
  have t := hv.t
  unfold V107
  rw [wrapS (x := x + long) (by omega) (by omega), slice_eq _ h1 h2, slice_eq _ h1 h2]
  refine ⟨h1, by omega, h3, _, ⟨by simp only [List.length_take, List.length_drop]; omega, rfl⟩, h1, by omega, by omega, _, ⟨by simp only [List.length_take, List.length_drop]; omega, rfl⟩, h⟩
end Go.Proofs.Tq
set_option maxRecDepth 100000
set_option linter.unusedVariables false
namespace Go.Proofs.Tq
open Go Go.GX

theorem find_at {α : Type} {p : α → Bool} {xs : List α} {d : α} {k : Nat} (hk : k < xs.length) (h1 : ∀ j, j < k → p (xs.getD j d) = false) (h2 : p (xs.getD k d) = true) : xs.find? p = some (xs.getD k d) := by
  rw [List.find?_eq_some_iff_getElem]
  refine ⟨h2, k, hk, (getD_lt hk).symm, fun j hj => ?_⟩
  have := h1 j hj
  rw [getD_lt (by omega)] at this
  simp [this]
theorem find_no {α : Type} {p : α → Bool} {xs : List α} {d : α} (h1 : ∀ j, j < xs.length → p (xs.getD j d) = false) : xs.find? p = none := by
  rw [List.find?_eq_none]
  intro x hx
  obtain ⟨j, hj, rfl⟩ := List.mem_iff_getElem.1 hx
  have := h1 j hj
  rw [getD_lt hj] at this
  simp [this]
abbrev s0 : Spoil := ((0, 0), (0, 0))
theorem p108 {v : View} {x long y wide : Int} {Q : Int × Bool × Unit → Prop} (h : f108_wp (v, x, long, y, wide, ()) () Q) : V108 v x long y wide Q := by
  obtain ⟨⟨hv, h1, h2, h3, h4⟩, h⟩ := h
  have h1 : 0 ≤ x ∧ x ≤ 30 := h1
  have h2 : 1 ≤ long ∧ long ≤ 30 := h2
  have h3 : 0 ≤ y ∧ y ≤ 300 := h3
  have h4 : 1 ≤ wide ∧ wide ≤ 300 := h4
  have h : Q (spoiltF v x long y wide) := h
  obtain ⟨sp, hsp⟩ : ∃ sp, sp = v.2.2 := ⟨_, rfl⟩
  unfold V108
  unfold spoiltF at h
  rw [← hsp] at h ⊢
  rw [wrapS (x := x + long) (by omega) (by omega), wrapS (x := x + long - 1) (by omega) (by omega), wrapS (x := y + wide) (by omega) (by omega)]
  intro hl
  refine forUpG hl (fun k => ∀ j, j < k → hitB x long y wide (sp.getD j s0) = false) (fun j hj => absurd hj (Nat.not_lt_zero _))
    (body := fun I μ i => 0 ≤ i ∧ i < (sp.length : Int) ∧ f133_wp (((sp.getD i.toNat s0).1.1, (sp.getD i.toNat s0).1.2), (x, x + long - 1), ()) () fun r => cnd (decide (r.1 ≤ r.2)) (cnd (decide ((sp.getD i.toNat s0).2.2 > y)) (cnd (decide ((sp.getD i.toNat s0).2.1 < y + wide)) (Q ((sp.getD i.toNat s0).2.2, true, ())) (I (IntKind.wrap .i64 (i + 1)) ∧ μ (IntKind.wrap .i64 (i + 1)) < μ i)) (I (IntKind.wrap .i64 (i + 1)) ∧ μ (IntKind.wrap .i64 (i + 1)) < μ i)) (I (IntKind.wrap .i64 (i + 1)) ∧ μ (IntKind.wrap .i64 (i + 1)) < μ i)) ?_ (e := fun _ => Q (0, false, ())) ?_
  · intro k hk hg I μ hI hw
    rw [hw]
    refine ⟨by omega, by omega, ?_⟩
    show cnd (decide (max (sp.getD k s0).1.1 x ≤ min (sp.getD k s0).1.2 (x + long - 1))) (cnd (decide ((sp.getD k s0).2.2 > y)) (cnd (decide ((sp.getD k s0).2.1 < y + wide)) (Q ((sp.getD k s0).2.2, true, ())) _) _) _
    have hno : hitB x long y wide (sp.getD k s0) = false → I ((k : Int) + 1) ∧ μ ((k : Int) + 1) < μ k := by
      intro hh
      refine hI fun j hj => ?_
      rcases Nat.lt_succ_iff_lt_or_eq.1 hj with h2 | rfl
      · exact hg j h2
      · exact hh
    refine cnd_iff.2 ⟨fun e => cnd_iff.2 ⟨fun e2 => cnd_iff.2 ⟨fun e3 => ?_, fun e3 => ?_⟩, fun e2 => ?_⟩, fun e => ?_⟩
    · rw [find_at hk hg (by unfold hitB; rw [e, e2, e3]; rfl)] at h; exact h
    · exact hno (by unfold hitB; rw [e, e2, e3]; rfl)
    · exact hno (by unfold hitB; rw [e, e2]; rfl)
    · exact hno (by unfold hitB; rw [e]; rfl)
  · intro hg
    rw [find_no hg] at h; exact h
theorem spoilt_true {v : View} {x long y wide : Int} (h : (spoiltF v x long y wide).2.1 = true) : ∃ s, s ∈ v.2.2 ∧ hitB x long y wide s = true ∧ (spoiltF v x long y wide).1 = s.2.2 := by
  unfold spoiltF at h ⊢
  cases hf : v.2.2.find? (hitB x long y wide) with
  | none => rw [hf] at h; cases h
  | some s => exact ⟨s, List.mem_of_find?_eq_some hf, List.find?_some hf, rfl⟩
theorem hitB_iff {x long y wide : Int} {s : Spoil} : hitB x long y wide s = true ↔ max s.1.1 x ≤ min s.1.2 (x + long - 1) ∧ y < s.2.2 ∧ s.2.1 < y + wide := by
  unfold hitB
  rw [Bool.and_eq_true, Bool.and_eq_true, decide_eq_true_eq, decide_eq_true_eq, decide_eq_true_eq, and_assoc]
theorem maxL_mem : ∀ (r : List Int) (a : Int), r.foldl max a ∈ a :: r
  | [], a => by simp
  | x :: r, a => by
    rw [List.foldl_cons]
    have := maxL_mem r (max a x)
    rcases List.mem_cons.1 this with h | h
    · rw [h]; rw [Int.max_def]; split <;> simp
    · exact List.mem_cons_of_mem _ (List.mem_cons_of_mem _ h)
theorem minL_mem : ∀ (r : List Int) (a : Int), r.foldl min a ∈ a :: r
  | [], a => by simp
  | x :: r, a => by
    rw [List.foldl_cons]
    have := minL_mem r (min a x)
    rcases List.mem_cons.1 this with h | h
    · rw [h]; rw [Int.min_def]; split <;> simp
    · exact List.mem_cons_of_mem _ (List.mem_cons_of_mem _ h)
theorem extr_mem {xs : List Int} (h : 1 ≤ xs.length) : maxL xs ∈ xs ∧ minL xs ∈ xs := by
  cases xs with
  | nil => simp at h
  | cons x r => exact ⟨maxL_mem r x, minL_mem r x⟩
theorem room_bound {v : View} (hv : ViewOK v) {x long : Int} (h1 : 0 ≤ x) (h2 : 1 ≤ long) (h3 : x + long ≤ (v.1.length : Int)) : (0 ≤ (roomF v x long).1 ∧ (roomF v x long).1 ≤ 300) ∧ 0 ≤ (roomF v x long).2 ∧ (roomF v x long).2 ≤ 300 := by
  have t := hv.t
  have a := (extr_mem (xs := (v.1.drop x.toNat).take long.toNat) (by simp only [List.length_take, List.length_drop]; omega)).1
  have b := (extr_mem (xs := (v.2.1.drop x.toNat).take long.toNat) (by simp only [List.length_take, List.length_drop]; omega)).2
  exact ⟨hv.b _ (List.mem_of_mem_drop (List.mem_of_mem_take a)), hv.h _ (List.mem_of_mem_drop (List.mem_of_mem_take b))⟩
theorem p73 {v : View} {s : Saw} {x : Int} {Q : List Int → Prop} (h : f73_wp (v, s, x, ()) () Q) : V73 v s x Q := by
  obtain ⟨⟨hv, hs, h1, h2⟩, h⟩ := h
  have hv : ViewOK v := hv
  have hs : SawOK s := hs
  have h1 : 0 ≤ x := h1
  have h2 : x + s.1 ≤ (v.1.length : Int) := h2
  have h : Q (blockN v s x (roomF v x s.1).2 302 (roomF v x s.1).1) := h _ rfl
  obtain ⟨l1, l2, w1, w2, k1, k2, _, _⟩ := hs
  obtain ⟨⟨r1, r2⟩, r3, r4⟩ := room_bound hv h1 l1 h2
  have n := hv.n
  have in107 : ∀ K : Span → Prop, K (roomF v x s.1) → f107_wp (v, x, s.1, ()) () K := fun K hK => ⟨⟨hv, h1, l1, h2⟩, hK⟩
  refine in107 _ ?_
  obtain ⟨lo, hlo⟩ : ∃ lo, lo = (roomF v x s.1).1 := ⟨_, rfl⟩
  obtain ⟨hi, hhi⟩ : ∃ hi, hi = (roomF v x s.1).2 := ⟨_, rfl⟩
  have hrm : roomF v x s.1 = (lo, hi) := by rw [hlo, hhi]
  rw [hrm]
  rw [hrm] at h r1 r2 r3 r4
  have h : Q (blockN v s x hi 302 lo) := h
  have r1 : 0 ≤ lo := r1
  have r2 : lo ≤ 300 := r2
  have r3 : 0 ≤ hi := r3
  have r4 : hi ≤ 300 := r4
  show ∃ (I : Int → List Int → Prop) (μ : Int → List Int → Nat), I lo [] ∧ ∀ y acc, I y acc → cnd (decide (IntKind.wrap .i64 (y + s.2.1) ≤ hi)) _ _
  refine ⟨fun y acc => ∃ k : Nat, (k : Int) ≤ y ∧ y ≤ 1000 ∧ acc.length ≤ k ∧ acc ++ blockN v s x hi (302 - k) y = blockN v s x hi 302 lo, fun y _ => (1000 - y).toNat, ⟨0, r1, by omega, Nat.le_refl _, rfl⟩, ?_⟩
  rintro y acc ⟨k, hk, hy, ha, he⟩
  rw [wrapS (x := y + s.2.1) (by omega) (by omega), wrapS (x := s.2.1 + s.2.2.1) (by omega) (by omega)]
  refine cnd_iff.2 ⟨fun e => ?_, fun e => ?_⟩
  · have e : y + s.2.1 ≤ hi := of_decide_eq_true e
    obtain ⟨m, hm⟩ : ∃ m, 302 - k = m + 1 := ⟨301 - k, by omega⟩
    rw [hm] at he
    unfold blockN at he
    rw [if_pos e] at he
    have hm2 : 302 - (k + 1) = m := by omega
    refine ⟨⟨hv, by show 0 ≤ x ∧ x ≤ 30; omega, ⟨l1, l2⟩, by show 0 ≤ y ∧ y ≤ 300; omega, ⟨w1, w2⟩⟩, ?_⟩
    show cnd (spoiltF v x s.1 y s.2.1).2.1 _ _
    refine cnd_iff.2 ⟨fun g => ?_, fun g => ?_⟩
    · rw [if_pos g] at he
      obtain ⟨sp, m1, m2, m3⟩ := spoilt_true g
      have m2 := (hitB_iff.1 m2).2.1
      have m4 := (hv.s sp m1).2.2.2
      have m5 : y < (spoiltF v x s.1 y s.2.1).1 ∧ (spoiltF v x s.1 y s.2.1).1 ≤ 300 := by rw [m3]; exact ⟨m2, m4⟩
      refine ⟨⟨k + 1, by show ((k + 1 : Nat) : Int) ≤ (spoiltF v x s.1 y s.2.1).1; omega, by show (spoiltF v x s.1 y s.2.1).1 ≤ 1000; omega, by omega, by rw [hm2]; exact he⟩, ?_⟩
      show (1000 - (spoiltF v x s.1 y s.2.1).1).toNat < (1000 - y).toNat
      omega
    · rw [if_neg (by rw [g]; simp)] at he
      rw [wrapS (x := y + (s.2.1 + s.2.2.1)) (by omega) (by omega)]
      refine ⟨by simp only [List.length_cons, List.length_nil]; omega, ⟨k + 1, by push_cast; omega, by omega, by simp only [List.length_append, List.length_cons, List.length_nil]; omega, by rw [hm2, List.append_assoc]; exact he⟩, ?_⟩
      show (1000 - (y + (s.2.1 + s.2.2.1))).toNat < (1000 - y).toNat
      omega
  · have e : ¬ y + s.2.1 ≤ hi := of_decide_eq_false e
    have : blockN v s x hi (302 - k) y = [] := by
      cases hm : 302 - k with
      | zero => rfl
      | succ m => unfold blockN; rw [if_neg e]
    rw [this, List.append_nil] at he
    rw [he]; exact h
theorem block_len (v : View) (s : Saw) (x hi : Int) : ∀ (n : Nat) (y : Int), (blockN v s x hi n y).length ≤ n
  | 0, y => Nat.le_refl _
  | n + 1, y => by
    unfold blockN
    split
    · split
      · exact Nat.le_succ_of_le (block_len v s x hi n _)
      · simp only [List.length_cons]; exact Nat.succ_le_succ (block_len v s x hi n _)
    · exact Nat.zero_le _
end Go.Proofs.Tq
set_option linter.unusedVariables false
set_option maxRecDepth 100000
namespace Go.Proofs.Tq
open Go Go.GX Go.Proofs

def V44 (v : List Int × List Int × List ((Int × Int) × Int × Int)) (s : Int × Int × Int × Int) (Q : List (Int × Int) → Prop) : Prop :=
  List.length (Prod.fst v) ≤ (9223372036854775807 : Nat) →
    IntKind.wrap IntKind.i64
          (IntKind.wrap IntKind.i64 (IntKind.wrap IntKind.i64 ((↑(List.length (Prod.fst v)) : Int) + Prod.fst s) + Prod.snd (Prod.snd (Prod.snd s))) +
            (1 : Int)) =
        IntKind.wrap IntKind.i64
          (IntKind.wrap IntKind.i64 (IntKind.wrap IntKind.i64 ((↑(List.length (Prod.fst v)) : Int) + Prod.fst s) + Prod.snd (Prod.snd (Prod.snd s))) +
            (1 : Int)) ∧
      (0 : Int) ≤
          IntKind.wrap IntKind.i64
            (IntKind.wrap IntKind.i64 (IntKind.wrap IntKind.i64 ((↑(List.length (Prod.fst v)) : Int) + Prod.fst s) + Prod.snd (Prod.snd (Prod.snd s))) +
              (1 : Int)) ∧
        IntKind.wrap IntKind.i64
                (IntKind.wrap IntKind.i64
                    (IntKind.wrap IntKind.i64 ((↑(List.length (Prod.fst v)) : Int) + Prod.fst s) + Prod.snd (Prod.snd (Prod.snd s))) +
                  (1 : Int)) *
              (↑(8 : Nat) : Int) ≤
            (140737488355328 : Int) ∧
          ∃ (I : Int → List Int → List (Int × List Int) → Prop),
            ∃ (μ : Int → List Int → List (Int × List Int) → Nat),
              I (IntKind.wrap IntKind.i64 ((↑(List.length (Prod.fst v)) : Int) - Prod.fst s))
                  (List.replicate
                    (Int.toNat
                      (IntKind.wrap IntKind.i64
                        (IntKind.wrap IntKind.i64
                            (IntKind.wrap IntKind.i64 ((↑(List.length (Prod.fst v)) : Int) + Prod.fst s) + Prod.snd (Prod.snd (Prod.snd s))) +
                          (1 : Int))))
                    (0 : Int))
                  ([] : List (Int × List Int)) ∧
                ∀ (x : Int) (x_1 : List Int) (x_2 : List (Int × List Int)),
                  I x x_1 x_2 →
                    cnd (decide (x ≥ (0 : Int)))
                      (f73_wp
                        ((Prod.fst v, Prod.fst (Prod.snd v), Prod.snd (Prod.snd v)),
                          (Prod.fst s, Prod.fst (Prod.snd s), Prod.fst (Prod.snd (Prod.snd s)), Prod.snd (Prod.snd (Prod.snd s))), x, ())
                        () fun (r : List Int) ↦
                        ∀ (y : List (Int × List Int)),
                          y = upE x_2 x r →
                            (0 : Int) ≤ IntKind.wrap IntKind.i64 (x + (1 : Int)) ∧
                              IntKind.wrap IntKind.i64 (x + (1 : Int)) < (↑(List.length x_1) : Int) ∧
                                ∀ (y_1 : List Int),
                                  y_1 = Option.getD (lkE y x) ([] : List Int) →
                                    (0 : Int) ≤
                                        IntKind.wrap IntKind.i64 (IntKind.wrap IntKind.i64 (x + Prod.fst s) + Prod.snd (Prod.snd (Prod.snd s))) ∧
                                      IntKind.wrap IntKind.i64 (IntKind.wrap IntKind.i64 (x + Prod.fst s) + Prod.snd (Prod.snd (Prod.snd s))) <
                                          (↑(List.length x_1) : Int) ∧
                                        (0 : Int) ≤ x ∧
                                          x < (↑(List.length x_1) : Int) ∧
                                            I (IntKind.wrap IntKind.i64 (x - (1 : Int)))
                                                (List.set x_1 (Int.toNat x)
                                                  (mxI (List.getD x_1 (Int.toNat (IntKind.wrap IntKind.i64 (x + (1 : Int)))) (0 : Int))
                                                    (IntKind.wrap IntKind.i64
                                                      ((↑(List.length y_1) : Int) +
                                                        List.getD x_1
                                                          (Int.toNat
                                                            (IntKind.wrap IntKind.i64
                                                              (IntKind.wrap IntKind.i64 (x + Prod.fst s) + Prod.snd (Prod.snd (Prod.snd s)))))
                                                          (0 : Int)))))
                                                y ∧
                                              μ (IntKind.wrap IntKind.i64 (x - (1 : Int)))
                                                  (List.set x_1 (Int.toNat x)
                                                    (mxI (List.getD x_1 (Int.toNat (IntKind.wrap IntKind.i64 (x + (1 : Int)))) (0 : Int))
                                                      (IntKind.wrap IntKind.i64
                                                        ((↑(List.length y_1) : Int) +
                                                          List.getD x_1
                                                            (Int.toNat
                                                              (IntKind.wrap IntKind.i64
                                                                (IntKind.wrap IntKind.i64 (x + Prod.fst s) + Prod.snd (Prod.snd (Prod.snd s)))))
                                                            (0 : Int)))))
                                                  y <
                                                μ x x_1 x_2)
                      (∃ (I : Int → List (Int × Int) → Prop),
                        ∃ (μ : Int → List (Int × Int) → Nat),
                          I (0 : Int) ([] : List (Int × Int)) ∧
                            ∀ (x : Int) (x_3 : List (Int × Int)),
                              I x x_3 →
                                cnd (decide (IntKind.wrap IntKind.i64 (x + Prod.fst s) ≤ (↑(List.length (Prod.fst v)) : Int)))
                                  (∃ (I_1 : Bool → Prop),
                                    (∀ (y : List Int),
                                        y = Option.getD (lkE x_2 x) ([] : List Int) →
                                          (0 : Int) ≤
                                              IntKind.wrap IntKind.i64 (IntKind.wrap IntKind.i64 (x + Prod.fst s) + Prod.snd (Prod.snd (Prod.snd s))) ∧
                                            IntKind.wrap IntKind.i64 (IntKind.wrap IntKind.i64 (x + Prod.fst s) + Prod.snd (Prod.snd (Prod.snd s))) <
                                                (↑(List.length x_1) : Int) ∧
                                              (0 : Int) ≤ x ∧
                                                x < (↑(List.length x_1) : Int) ∧
                                                  cnd
                                                    (decide
                                                      (IntKind.wrap IntKind.i64
                                                          ((↑(List.length y) : Int) +
                                                            List.getD x_1
                                                              (Int.toNat
                                                                (IntKind.wrap IntKind.i64
                                                                  (IntKind.wrap IntKind.i64 (x + Prod.fst s) + Prod.snd (Prod.snd (Prod.snd s)))))
                                                              (0 : Int)) <
                                                        List.getD x_1 (Int.toNat x) (0 : Int)))
                                                    (I_1 true)
                                                    (∀ (y : List Int),
                                                      y = Option.getD (lkE x_2 x) ([] : List Int) → I_1 ((↑(List.length y) : Int) == (0 : Int)))) ∧
                                      ∀ (x_4 : Bool),
                                        I_1 x_4 →
                                          cnd x_4
                                            (I (IntKind.wrap IntKind.i64 (x + (1 : Int))) x_3 ∧
                                              μ (IntKind.wrap IntKind.i64 (x + (1 : Int))) x_3 < μ x x_3)
                                            (∀ (y : List Int),
                                              y = Option.getD (lkE x_2 x) ([] : List Int) →
                                                List.length y ≤ (9223372036854775807 : Nat) →
                                                  ∃ (I_2 : Int → List (Int × Int) → Prop),
                                                    ∃ (μ_1 : Int → List (Int × Int) → Nat),
                                                      I_2 (0 : Int) x_3 ∧
                                                        ∀ (x_5 : Int) (x_6 : List (Int × Int)),
                                                          I_2 x_5 x_6 →
                                                            cnd (decide (x_5 < (↑(List.length y) : Int)))
                                                              ((0 : Int) ≤ x_5 ∧
                                                                x_5 < (↑(List.length y) : Int) ∧
                                                                  (List.length x_6 +
                                                                          List.length
                                                                            ((x, List.getD y (Int.toNat x_5) (0 : Int)) :: ([] : List (Int × Int)))) *
                                                                        (16 : Nat) ≤
                                                                      (140737488355328 : Nat) ∧
                                                                    I_2 (IntKind.wrap IntKind.i64 (x_5 + (1 : Int)))
                                                                        (x_6 ++ (x, List.getD y (Int.toNat x_5) (0 : Int)) :: ([] : List (Int × Int))) ∧
                                                                      μ_1 (IntKind.wrap IntKind.i64 (x_5 + (1 : Int)))
                                                                          (x_6 ++
                                                                            (x, List.getD y (Int.toNat x_5) (0 : Int)) :: ([] : List (Int × Int))) <
                                                                        μ_1 x_5 x_6)
                                                              (I
                                                                  (IntKind.wrap IntKind.i64
                                                                    (x + IntKind.wrap IntKind.i64 (Prod.fst s + Prod.snd (Prod.snd (Prod.snd s)))))
                                                                  x_6 ∧
                                                                μ
                                                                    (IntKind.wrap IntKind.i64
                                                                      (x + IntKind.wrap IntKind.i64 (Prod.fst s + Prod.snd (Prod.snd (Prod.snd s)))))
                                                                    x_6 <
                                                                  μ x x_3)))
                                  (Q x_3))
theorem v44 (v : List Int × List Int × List ((Int × Int) × Int × Int)) (s : Int × Int × Int × Int) (Q : List (Int × Int) → Prop) : V44 v s Q = vcFunc (S1 [(73, f73_ct)] [] [] []) f44_ct.own f44_ct.fresh f44_an Try.f44 (bodyOf Try.f44) f44_ct.A f44_ct.C f44_ct.R (v, s, ()) () Q := by kernel_rfl

end Go.Proofs.Tq
set_option maxRecDepth 100000
set_option linter.unusedVariables false
namespace Go.Proofs.Tq
open Go Go.GX

theorem lk_up0 {α : Type} : ∀ (es : List (Int × α)) (x : Int) (v : α) (k : Int), lkE0 (upE0 es x v) k = if k = x then some v else lkE0 es k
  | [], x, v, k => by
    unfold upE0 lkE0
    by_cases h : k = x
    · subst h; simp
    · rw [if_neg h, List.find?_cons_of_neg (by simpa using fun e => h e.symm)]
  | p :: r, x, v, k => by
    have ih := lk_up0 r x v k
    unfold upE0
    by_cases hp : p.1 = x
    · rw [if_pos hp]
      unfold lkE0
      by_cases h : k = x
      · subst h; simp
      · rw [if_neg h, List.find?_cons_of_neg (by simpa using fun e => h e.symm), List.find?_cons_of_neg (by simpa using fun e => h (e.symm.trans hp))]
    · rw [if_neg hp]
      unfold lkE0 at ih ⊢
      by_cases h2 : p.1 = k
      · rw [List.find?_cons_of_pos (by simpa using h2), List.find?_cons_of_pos (by simpa using h2), if_neg (fun e => hp (h2.trans e))]
      · rw [List.find?_cons_of_neg (by simpa using h2), List.find?_cons_of_neg (by simpa using h2)]
        exact ih
theorem lk_up {α : Type} (es : List (Int × α)) (x : Int) (v : α) (k : Int) : lkE (upE es x v) k = if k = x then some v else lkE es k := by
  rw [lkE_eq, upE_eq, lkE_eq]; exact lk_up0 es x v k
section
variable {c : Nat → Nat} {n L A : Nat}
theorem best_no {x : Nat} (h : n < x + L) : bestF c n L A x = 0 := by
  rw [bestF, dif_neg (by omega)]
theorem best_step {x : Nat} (h : x + L ≤ n) (hL : 1 ≤ L) : bestF c n L A x = max (bestF c n L A (x + 1)) (c x + bestF c n L A (x + L + A)) := by
  rw [bestF, dif_pos ⟨h, hL⟩]
theorem best_le (hL : 1 ≤ L) (x : Nat) : bestF c n L A (x + 1) ≤ bestF c n L A x := by
  by_cases h : x + L ≤ n
  · rw [best_step h hL]; exact Nat.le_max_left _ _
  · rw [best_no (x := x + 1) (by omega)]; exact Nat.zero_le _
theorem best_down (hL : 1 ≤ L) (x : Nat) : ∀ d, bestF c n L A (x + d) ≤ bestF c n L A x
  | 0 => Nat.le_refl _
  | d + 1 => Nat.le_trans (best_le hL (x + d)) (best_down hL x d)
theorem best_bound {m : Nat} (hL : 1 ≤ L) (hc : ∀ x, c x ≤ m) : ∀ (f x : Nat), n - x ≤ f → bestF c n L A x ≤ m * (n - x)
  | 0, x, h => by rw [best_no (by omega)]; exact Nat.zero_le _
  | f + 1, x, h => by
    by_cases hx : x + L ≤ n
    · rw [best_step hx hL]
      have h1 := best_bound hL hc f (x + 1) (by omega)
      have h2 := best_bound hL hc f (x + L + A) (by omega)
      have h3 : m * (n - (x + 1)) ≤ m * (n - x) := Nat.mul_le_mul_left _ (by omega)
      have h4 : m * (n - (x + L + A)) + m ≤ m * (n - x) := by
        have : m * (n - (x + L + A)) + m = m * (n - (x + L + A) + 1) := by rw [Nat.mul_succ]
        rw [this]; exact Nat.mul_le_mul_left _ (by omega)
      have h5 := hc x
      exact Nat.max_le.2 ⟨by omega, by omega⟩
    · rw [best_no (by omega)]; exact Nat.zero_le _
end
theorem mg_len {b : Nat → List Int} {n L A : Nat} (hL : 1 ≤ L) : ∀ (f x : Nat), n - x ≤ f → (mostG b n L A x).length = bestF (fun x => (b x).length) n L A x := by
  intro f
  induction f with
  | zero =>
    intro x hf
    rw [mostG, dif_neg (by omega), best_no (by omega)]; rfl
  | succ f ih =>
    intro x hf
    by_cases hx : x + L ≤ n
    · have s1 := best_step (c := fun x => (b x).length) (A := A) hx hL
      have s2 : bestF (fun x => (b x).length) n L A (x + L + A) ≤ bestF (fun x => (b x).length) n L A (x + 1) := by
        have := best_down (c := fun x => (b x).length) (n := n) (A := A) hL (x + 1) (L + A - 1)
        rwa [show x + 1 + (L + A - 1) = x + L + A by omega] at this
      have e1 := ih (x + 1) (by omega)
      have e2 := ih (x + L + A) (by omega)
      obtain ⟨u, hu⟩ : ∃ u, u = bestF (fun x => (b x).length) n L A (x + L + A) := ⟨_, rfl⟩
      obtain ⟨w, hw⟩ : ∃ w, w = bestF (fun x => (b x).length) n L A x := ⟨_, rfl⟩
      obtain ⟨z, hz⟩ : ∃ z, z = bestF (fun x => (b x).length) n L A (x + 1) := ⟨_, rfl⟩
      rw [mostG, dif_pos ⟨hx, hL⟩]
      rw [← hu] at s1 s2 e2
      rw [← hw] at s1
      rw [← hz] at s1 s2 e1
      rw [← hu, ← hw]
      have s1 : w = max z ((b x).length + u) := s1
      by_cases hq : (b x).length + u < w ∨ (b x).length = 0
      · rw [if_pos hq, e1]
        omega
      · rw [if_neg hq, List.length_append, List.length_map, e2]
        omega
    · rw [mostG, dif_neg (by omega), best_no (by omega)]; rfl
theorem most_len {v : View} {s : Saw} (h : 1 ≤ s.1) : (mostL v s).length = sticksF v s := mg_len (by omega) _ 0 (Nat.le_refl _)
theorem getD_set2 {α : Type} (d : α) (l : List α) (i : Nat) (v : α) {j : Nat} (hj : j < l.length) : (l.set i v).getD j d = if i = j then v else l.getD j d := by
  rw [List.getD_eq_getElem?_getD, List.getD_eq_getElem?_getD, List.getElem?_set]
  by_cases ha : i = j
  · subst ha; simp [hj]
  · simp [ha]
theorem p44 {v : View} {s : Saw} {Q : List Place → Prop} (h : f44_wp (v, s, ()) () Q) : V44 v s Q := by
  obtain ⟨⟨hv, hs⟩, h⟩ := h
  have hv : ViewOK v := hv
  have hs : SawOK s := hs
  have h : ∀ l : List Place, l = mostL v s → Q l := h
  have hml := most_len (v := v) hs.l1
  obtain ⟨l1, l2, w1, w2, k1, k2, a1, a2⟩ := id hs
  have hn := hv.n
  obtain ⟨n, en⟩ : ∃ n, n = v.1.length := ⟨_, rfl⟩
  obtain ⟨L, eL⟩ : ∃ L, L = s.1.toNat := ⟨_, rfl⟩
  obtain ⟨A, eA⟩ : ∃ A, A = s.2.2.2.toNat := ⟨_, rfl⟩
  have hL : s.1 = (L : Int) := by omega
  have hA : s.2.2.2 = (A : Int) := by omega
  obtain ⟨c, ec⟩ : ∃ c : Nat → Nat, c = fun (x : Nat) => (blockF v s (x : Int)).length := ⟨_, rfl⟩
  obtain ⟨B, eB⟩ : ∃ B, B = bestF c n L A := ⟨_, rfl⟩
  have hsf : sticksF v s = B 0 := by unfold sticksF; rw [eB, ec, en, eL, eA]
  rw [hsf] at hml
  obtain ⟨G, eG⟩ : ∃ G, G = mostG (fun x => blockF v s x) n L A := ⟨_, rfl⟩
  have hg0 : mostL v s = G 0 := by unfold mostL; rw [eG, en, eL, eA]
  rw [hg0] at h hml
  have gno : ∀ x, n < x + L → G x = [] := fun x hx => by rw [eG, mostG, dif_neg (by omega)]
  have hc : ∀ x, c x ≤ 302 := fun x => by rw [ec]; exact block_len v s x _ 302 _
  have hL1 : 1 ≤ L := by omega
  have hno : ∀ x, n < x + L → B x = 0 := fun x hx => by rw [eB]; exact best_no hx
  have hst : ∀ x, x + L ≤ n → B x = max (B (x + 1)) (c x + B (x + L + A)) := fun x hx => by rw [eB]; exact best_step hx hL1
  have hdn : ∀ x d, B (x + d) ≤ B x := fun x d => by rw [eB]; exact best_down hL1 x d
  have hbd : ∀ x, B x ≤ 9060 := fun x => by
    rw [eB]
    refine Nat.le_trans (best_bound hL1 hc (n - x) x (Nat.le_refl _)) ?_
    have : 302 * (n - x) ≤ 302 * 30 := Nat.mul_le_mul_left _ (by omega)
    omega
  have gst : ∀ x, x + L ≤ n → G x = if c x + B (x + L + A) < B x ∨ c x = 0 then G (x + 1) else (blockF v s x).map (fun y => ((x : Int), y)) ++ G (x + L + A) := fun x hx => by
    rw [eG, eB, ec]
    conv => lhs; rw [mostG]
    rw [dif_pos ⟨hx, by omega⟩]
  clear eB eG
  unfold V44
  intro hlen
  rw [← en, hL, hA]
  rw [wrapS (x := (n : Int) + (L : Int)) (by omega) (by omega), wrapS (x := (n : Int) + (L : Int) + (A : Int)) (by omega) (by omega), wrapS (x := (n : Int) + (L : Int) + (A : Int) + 1) (by omega) (by omega), wrapS (x := (n : Int) - (L : Int)) (by omega) (by omega), wrapS (x := (L : Int) + (A : Int)) (by omega) (by omega)]
  refine ⟨rfl, by omega, by show ((n : Int) + L + A + 1) * 8 ≤ 140737488355328; omega, ?_⟩
  refine ⟨fun x bs es => -30 ≤ x ∧ x ≤ (n : Int) - L ∧ bs.length = n + L + A + 1 ∧ (∀ k : Nat, x < k → k < n + L + A + 1 → bs.getD k 0 = B k) ∧ (∀ k : Nat, x < k → k + L ≤ n → lkE es (k : Int) = some (blockF v s k)), fun x _ _ => (x + 1).toNat, ⟨by omega, by omega, by rw [List.length_replicate]; omega, fun k hk hk2 => ?_, fun k hk hk2 => absurd hk (by omega)⟩, ?_⟩
  · rw [hno k (by omega), List.getD_eq_getElem?_getD, List.getElem?_replicate]
    split <;> rfl
  rintro x bs es ⟨i0, i1, i2, i3, i4⟩
  refine cnd_iff.2 ⟨fun e => ?_, fun e => ?_⟩
  · have e : x ≥ 0 := of_decide_eq_true e
    obtain ⟨k, rfl⟩ : ∃ k : Nat, x = k := ⟨x.toNat, by omega⟩
    rw [wrapS (x := (k : Int) + 1) (by omega) (by omega), wrapS (x := (k : Int) + (L : Int)) (by omega) (by omega), wrapS (x := (k : Int) + (L : Int) + (A : Int)) (by omega) (by omega), wrapS (x := (k : Int) - 1) (by omega) (by omega)]
    refine ⟨⟨hv, by rw [← hL, ← hA]; exact hs, by show (0 : Int) ≤ (k : Int); omega, by show (k : Int) + (L : Int) ≤ (v.1.length : Int); omega⟩, ?_⟩
    intro r hr y hy
    have hr : r = blockF v s k := by
      rw [hr]
      show blockF v ((L : Int), s.2.1, s.2.2.1, (A : Int)) (k : Int) = _
      rw [← hL, ← hA]
    subst hy
    refine ⟨by omega, by omega, ?_⟩
    intro y1 hy1
    rw [lk_up, if_pos rfl] at hy1
    have hy1 : y1 = r := hy1
    subst hy1
    have t1 : ((k : Int) + 1).toNat = k + 1 := by omega
    have t2 : ((k : Int) + (L : Int) + (A : Int)).toNat = k + L + A := by omega
    have t3 : (k : Int).toNat = k := rfl
    have cy : (y1.length : Int) = (c k : Int) := by rw [ec, hr]
    have b1 := hc k
    have b2 := hbd (k + L + A)
    have b3 := hbd (k + 1)
    rw [t1, t2, t3, i3 (k + 1) (by omega) (by omega), i3 (k + L + A) (by omega) (by omega), cy, wrapS (x := (c k : Int) + (B (k + L + A) : Int)) (by omega) (by omega), mxI_max]
    refine ⟨by omega, by omega, by omega, by omega, ⟨by omega, by omega, by rw [List.length_set]; exact i2, fun j hj hj2 => ?_, fun j hj hj2 => ?_⟩, by show ((k : Int) - 1 + 1).toNat < ((k : Int) + 1).toNat; omega⟩
    · rw [getD_set2 _ _ _ _ (by omega)]
      by_cases hkj : k = j
      · rw [if_pos hkj, ← hkj, hst k (by omega)]
        rw [Int.max_def, Nat.max_def]
        split <;> split <;> omega
      · rw [if_neg hkj]; exact i3 j (by omega) hj2
    · rw [lk_up]
      by_cases hkj : (j : Int) = (k : Int)
      · rw [if_pos hkj, hr, show k = j by omega]
      · rw [if_neg hkj]; exact i4 j (by omega) hj2
  · have e : ¬ x ≥ 0 := of_decide_eq_false e
    refine ⟨fun x acc => ∃ k : Nat, x = k ∧ k ≤ 200 ∧ acc ++ G k = G 0, fun x _ => (300 - x).toNat, ⟨0, rfl, by omega, rfl⟩, ?_⟩
    rintro _ acc ⟨k, rfl, hk, hacc⟩
    have hal : acc.length + (G k).length = B 0 := by rw [← hml, ← hacc, List.length_append]
    rw [wrapS (x := (k : Int) + (L : Int)) (by omega) (by omega), wrapS (x := (k : Int) + (L : Int) + (A : Int)) (by omega) (by omega), wrapS (x := (k : Int) + 1) (by omega) (by omega), wrapS (x := (k : Int) + ((L : Int) + (A : Int))) (by omega) (by omega)]
    refine cnd_iff.2 ⟨fun g => ?_, fun g => ?_⟩
    · have g : (k : Int) + L ≤ (n : Int) := of_decide_eq_true g
      have lk : lkE es (k : Int) = some (blockF v s k) := i4 k (by omega) (by omega)
      have t2 : ((k : Int) + (L : Int) + (A : Int)).toNat = k + L + A := by omega
      have t3 : (k : Int).toNat = k := rfl
      have b1 := hc k
      have b2 := hbd (k + L + A)
      have s1 := hst k (by omega)
      have s2 : B (k + L + A) ≤ B (k + 1) := by
        have := hdn (k + 1) (L + A - 1)
        rwa [show k + 1 + (L + A - 1) = k + L + A by omega] at this
      rw [lk, t2, t3]
      have cb : ∀ y : List Int, y = (some (blockF v s (k : Int))).getD [] → y.length = c k := fun y hy => by rw [hy, ec]; rfl
      have gs := gst k (by omega)
      refine ⟨fun b => (b = true → G k = G (k + 1)) ∧ (b = false → G k = (blockF v s (k : Int)).map (fun y => ((k : Int), y)) ++ G (k + L + A)), ?_, ?_⟩
      · intro y hy
        have hy := cb y hy
        rw [i3 (k + L + A) (by omega) (by omega), i3 k (by omega) (by omega), hy, wrapS (x := (c k : Int) + (B (k + L + A) : Int)) (by omega) (by omega)]
        refine ⟨by omega, by omega, by omega, by omega, cnd_iff.2 ⟨fun d => ?_, fun d => ?_⟩⟩
        · have d : (c k : Int) + (B (k + L + A) : Int) < (B k : Int) := of_decide_eq_true d
          exact ⟨fun _ => by rw [gs, if_pos (by omega)], fun e => by cases e⟩
        · have d : ¬ (c k : Int) + (B (k + L + A) : Int) < (B k : Int) := of_decide_eq_false d
          intro y' hy'
          have hy' := cb y' hy'
          rw [hy']
          refine ⟨fun e => ?_, fun e => ?_⟩
          · have e : (c k : Int) = 0 := by simpa using e
            rw [gs, if_pos (by omega)]
          · have e : ¬ (c k : Int) = 0 := by simpa using e
            rw [gs, if_neg (by omega)]
      · rintro b ⟨hb1, hb2⟩
        refine cnd_iff.2 ⟨fun d => ?_, fun d => ?_⟩
        · have := hb1 d
          exact ⟨⟨k + 1, by push_cast; rfl, by omega, by rw [← this]; exact hacc⟩, by show (300 - ((k : Int) + 1)).toNat < (300 - (k : Int)).toNat; omega⟩
        · have hb := hb2 d
          intro y hy hyl
          have hyb : y = blockF v s (k : Int) := hy
          rw [← hyb] at hb
          rw [hb, ← List.append_assoc] at hacc
          have hal : acc.length + y.length ≤ B 0 := by rw [← hml, ← hacc, List.length_append, List.length_append, List.length_map]; omega
          have z0 := hbd 0
          refine ⟨fun i acc' => ∃ j : Nat, i = j ∧ j ≤ y.length ∧ acc' = acc ++ (y.take j).map (fun y => ((k : Int), y)), fun i _ => ((y.length : Int) - i).toNat, ⟨0, rfl, Nat.zero_le _, by simp⟩, ?_⟩
          rintro _ _ ⟨j, rfl, hj, rfl⟩
          refine cnd_iff.2 ⟨fun q => ?_, fun q => ?_⟩
          · have q : (j : Int) < (y.length : Int) := of_decide_eq_true q
            rw [wrapS (x := (j : Int) + 1) (by omega) (by omega)]
            refine ⟨by omega, by omega, by simp only [List.length_append, List.length_map, List.length_take, List.length_cons, List.length_nil]; omega, ⟨j + 1, by push_cast; rfl, by omega, ?_⟩, ?_⟩
            · rw [List.append_assoc]
              have := map_snoc (0 : Int) (fun y => ((k : Int), y)) y (k := j) (by omega)
              rw [← this]; rfl
            · show ((y.length : Int) - ((j : Int) + 1)).toNat < ((y.length : Int) - (j : Int)).toNat
              omega
          · have q : ¬ (j : Int) < (y.length : Int) := of_decide_eq_false q
            refine ⟨⟨k + L + A, by push_cast; omega, by omega, by rw [show j = y.length by omega, List.take_length]; exact hacc⟩, ?_⟩
            show (300 - ((k : Int) + ((L : Int) + (A : Int)))).toNat < (300 - (k : Int)).toNat
            omega
    · have g : ¬ (k : Int) + L ≤ (n : Int) := of_decide_eq_false g
      have := gno k (by omega)
      rw [this, List.append_nil] at hacc
      exact h acc hacc
end Go.Proofs.Tq
