/- Part 3 of the texts behind the proof: Gx11, Gx12, Gx13, Gx13c, Gx13m, Gx13p. -/
import Derived.Test.YtgcgakefjfhnkaaG02
import Derived.Laws.CopyRow
import Derived.Laws.IdiomCopy
import Derived.MapKept
set_option linter.unusedSimpArgs false
set_option linter.unusedVariables false
set_option linter.unusedSectionVars false
set_option linter.unusedVariables false
namespace Go.GX
variable [Inhabited BaseD]
open Go.RowKit Go.Shelf Go.Proofs

theorem splice_splice {α : Type} (l : List α) (o : Nat) (a b : List α) (h : o ≤ l.length) : splice (splice l o a) (o + a.length) b = splice l o (a ++ b) := by
  have h1 : (l.take o ++ a ++ l.drop (o + a.length)).take (o + a.length) = l.take o ++ a := List.take_left' (by simp; omega)
  have h2 : (l.take o ++ a ++ l.drop (o + a.length)).drop (o + a.length + b.length) = l.drop (o + (a ++ b).length) := by
    rw [← List.drop_drop]
    rw [List.drop_left' (by simp; omega), List.drop_drop]
    simp [Nat.add_assoc]
  unfold splice
  rw [h1, h2]
  simp

theorem splice_all {α : Type} (l a : List α) (h : a.length = l.length) : splice l 0 a = a := by
  unfold splice
  simp [h]

section
variable {P : Program} {glb : Nat → Option GV} {Bk X0 : Nat → Prop} {w0 : World} {st : St} {ρ : Lab} {a : Act} {W W' : World} {S : Stat} {dr : Bool} {lab : Nat} {o : Oper} {Q : Eff} {Z : Nat → Bool}

theorem Evo.unfalse' (m : Mt P glb Bk X0 w0 st ρ a W) : Evo (Xl st ρ X0 (fun _ => false)) W (Xs st ρ X0) W := Evo.mono m.Xlt (fun k => xl_false)

theorem elems_ok (hS : StatOK P S) (hg : S.glb = glb) (m : Mt P glb Bk X0 w0 st ρ a W) (e : TypeId) (n : Nat) : ∀ (parts : List (Nat × Operand)) (i : Nat) (k : List SC → Prop), elemsS S st e n i parts k →
    ∃ cs us, k cs ∧ RepCs P ρ (Xs st ρ X0) W cs us ∧ us.length = parts.length * n ∧ ∀ cells : Array Value, (i + parts.length) * n ≤ cells.size →
      ∃ out, Instr.fill (fun i => some (i * n, n)) cells (parts.map fun p => (p.1, a.eval p.2)) = some out ∧ out.toList = splice cells.toList (i * n) us
  | [], i, k, h => ⟨[], [], h, rfl, by simp, fun cells _ => ⟨cells, rfl, by simp [splice]⟩⟩
  | (j, x) :: r, i, k, h => by
    simp only [elemsS] at h
    obtain ⟨hij, h1⟩ := chk_iff.1 h
    have hij' := Nat.eq_of_beq_eq_true hij
    clear h hij
    subst hij'
    obtain ⟨cs0, h2, hcs0⟩ := cellsOf_ok h1 (ev_ok hS hg m e x)
    obtain ⟨hn0, h3⟩ := chk_iff.1 h2
    have hn := Nat.eq_of_beq_eq_true hn0
    obtain ⟨cs, us, hk, hr, hl, hf⟩ := elems_ok hS hg m e n r (i + 1) _ h3
    have hlen : (a.eval x).cells.toList.length = n := by rw [hcs0.length, hn]
    refine ⟨_, (a.eval x).cells.toList ++ us, hk, hcs0.append hr, by simp only [List.length_append, hlen, hl, List.length_cons]; rw [Nat.add_mul]; omega, fun cells hc => ?_⟩
    have hlen' : (a.eval x).cells.size = n := by simpa using hlen
    have hin : i * n + n ≤ cells.size := by
      refine Nat.le_trans ?_ hc
      rw [← Nat.succ_mul]
      exact Nat.mul_le_mul_right _ (by simp)
    have hset := fill_set (i * n) (a.eval x) cells (by omega)
    obtain ⟨out, ho, hout⟩ := hf ((a.eval x).cells.zipIdx.foldl (fun cs (p : Value × Nat) => cs.setIfInBounds (i * n + p.2) p.1) cells) (by
      rw [← Array.length_toList, hset, splice_length _ _ _ (by simp; omega)]
      simp only [List.length_cons] at hc
      simp only [Array.length_toList]
      rw [Nat.add_assoc, Nat.add_comm 1]; exact hc)
    refine ⟨out, ?_, ?_⟩
    · simp only [List.map_cons, Instr.fill]
      have hcond : ((a.eval x).cells.size ≠ n || i * n + (a.eval x).cells.size > cells.size) = false := by simp; omega
      rw [if_neg (by simpa using hcond)]
      exact ho
    · rw [hout, hset]
      rw [show (i + 1) * n = i * n + (a.eval x).cells.toList.length by rw [hlen, Nat.succ_mul]]
      exact splice_splice _ _ _ _ (by simp; omega)

theorem run_buildSlice (t e : TypeId) (inf : TypeInfo) (z : Value) (L : Nat) (parts : Array (Nat × Value)) (out : Array Value) (ht : P.underlying t = some (.slice e)) (h1 : P.info? e = some inf) (h2 : inf.zero = some z) (h3 : L * inf.size ≤ 16777216)
    (hf : ∀ cells : Array Value, cells.size = L * inf.size → Instr.fill (fun i => some (i * inf.size, inf.size)) cells parts.toList = some out) :
    (Instr.buildSlice t L parts).run P W = .ok (.slice (some ⟨W.heap.size, 0, none⟩) L L) (W.alloc (.cells out e)) := by
  have h3' : ¬ (16777216 < L * inf.size) := by omega
  by_cases h0 : L * inf.size = 0
  · have hf' := hf ((Array.range (L * inf.size)).map ((#[] : Array Value)[· % (#[] : Array Value).size]!)) (by simp)
    simp only [h0] at hf'
    simp [Instr.buildSlice, run_underlying ht, sizeOf, typeInfo, h1, h0] at hf' ⊢
    simp [hf', newRow]
  · have hf' := hf ((Array.range (L * inf.size)).map (z.cells[· % z.cells.size]!)) (by simp)
    simp [Instr.buildSlice, run_underlying ht, sizeOf, typeInfo, zeroValue, h1, h2, h3', hf', newRow]
    exact fun h => absurd h h0

theorem InRow.keep {e1 : TypeId} {K1 : Kd} {xr : List K1.T} {u : Value} (hf : K1.flat = true) (h : InRow P W e1 K1 xr u) (hb : ∀ k, u.ownBlock = some k → W'.heap[k]? = W.heap[k]?) : InRow P W' e1 K1 xr u :=
  let ⟨fl, ho, hc⟩ := h; ⟨fl, ownsRow_keep ho hb, fun i x hi => Kd.flat_cells P K1 hf (hc i x hi)⟩

theorem lit_mat (m : Mt P glb Bk X0 w0 st ρ a W) (hlab : memL lab st.dom = false) (hvl : memL (vlab lab) st.dom = false) {e e1 : TypeId} {ag : Bool} {K1 : Kd} {cs : List SC} {us : List Value} {out : Array Value} (hout : out.toList = us) (hmax : us.length ≤ maxLen) {X : Nat → Prop} (hr : RepCs P ρ X W cs us)
    (h : litM st.look lab e ag e1 K1 cs Q) : Fits P glb Bk X0 w0 st ρ a W Q (.slice (some ⟨W.heap.size, 0, none⟩) us.length us.length) (W.alloc (.cells out e)) := by
  obtain ⟨p, hp, h1⟩ := optK_ok h
  obtain ⟨hc, hQ⟩ := chk_iff.1 h1
  simp only [Bool.and_eq_true] at hc
  obtain ⟨g1, g2, g3, g4, g5⟩ := rowsL_ok m hc.1 cs p.1 p.2 us hp hr
  have hlt : ∀ (j : Nat) u k, us[j]? = some u → u.ownBlock = some k → k < W.heap.size := by
    intro j u k hj hk
    obtain ⟨l, he, s, _, q1, q2, q3⟩ := g3 j u k hj hk
    obtain ⟨v', hv', hok⟩ := m.hps l he s q1
    rw [q2] at hv'; cases hv'
    exact (hok.lt q3).2
  have hb := below_alloc W (.cells out e)
  have hmat : MatOK P (W.alloc (.cells out e)) e e1 K1 p.1 none us (.slice (some ⟨W.heap.size, 0, none⟩) us.length us.length) := by
    refine ⟨hc.1, Nat.le_of_ble_eq_true hc.2, g1, ⟨us, ?_, fun j u hj _ => hj⟩, fun j u xr hj hx _ => (g2 j u xr hj hx).keep hc.1 (fun k hk => hb.block k (hlt j u k hj hk)), fun j j' u u' k hne hj hj' _ _ hk => g4 j j' u u' k hne hj hj' hk, fun j u k hj _ hk => ?_⟩
    · have := World.ownsRow_lit (base := 0) (e := e) (size := 1) W out us.length (Nat.zero_le _) hmax (by rw [← Array.length_toList, hout, Nat.mul_one])
      rw [hout] at this
      rw [← g1]
      exact this
    · have := hlt j u k hj hk
      simp only [Value.ownBlock, ne_eq, Option.some.injEq]
      omega
  obtain ⟨m', hle⟩ := m.toMat hlab hvl p.2 (fun l hl he s hh => by
      obtain ⟨nn, e', K', ys, s', hs'⟩ := g5 l hl
      rw [hs'] at hh; cases hh; rfl) true e ag e1 K1 p.1 us (.slice (some ⟨W.heap.size, 0, none⟩) us.length us.length) hb.os hb.tape hb.output hb.size (fun k hk _ => hb.block k hk) (fun k hk => by
      rcases hk with hk | ⟨j, u, hj, hk⟩
      · simp only [Value.ownBlock, Option.some.injEq] at hk
        exact .inl (by omega)
      · obtain ⟨l, he, s, q0, q⟩ := g3 j u k hj hk
        exact .inr ⟨l, he, s, u, q0, q⟩) hmat (fun _ => ⟨_, _, _, rfl⟩)
  exact ⟨.mk false [.own lab], _, _, hQ, hle, m', ⟨_, rfl, Lab.put_same _ _ _, _, _, _, rfl⟩, hb.size⟩

theorem lit_row (hct : CtOK P glb S) (m : Mt P glb Bk X0 w0 st ρ a W) (hlab : memL lab st.dom = false) {e : TypeId} {i : TI} {cs : List SC} {us : List Value} {L : Nat} {out : Array Value} (hout : out.toList = us) (hul : us.length = L * i.kd.n) (hn : 0 < i.kd.n) (hmax : L ≤ maxLen) (hr : RepCs P ρ (Xs st ρ X0) W cs us)
    (h : optK (decList (dec1 S st.look fuel) i.kd L cs) fun r => chk r.2.isEmpty (Q (.mk false [.own lab]) [(lab, some (.row true e i.kd r.1))])) : Fits P glb Bk X0 w0 st ρ a W Q (.slice (some ⟨W.heap.size, 0, none⟩) L L) (W.alloc (.cells out e)) := by
  obtain ⟨r, hr1, hQ0⟩ := optK_ok h
  obtain ⟨xs, ls⟩ := r
  obtain ⟨hls, hQ⟩ := chk_iff.1 hQ0
  have hls : ls = [] := by simpa using hls
  subst hls
  obtain ⟨k1, k2, k3⟩ := decList_ok (Z := fun _ => false) (dec1_ok m hct fuel) i.kd L cs xs [] us hr1 hr (by simp)
  refine Fits.new m hlab _ (.slice (some ⟨W.heap.size, 0, none⟩) L L) (below_alloc W _) ?_ ?_ hQ (fun X hρ => ⟨_, rfl, hρ, _, _, _, rfl⟩)
  · intro k hk
    rw [ownB_row] at hk
    simp only [ownBlk, Option.some.injEq] at hk
    subst hk
    simp
  · intro ev _
    refine ⟨hn, ⟨us, ?_, fun j x hx => (Kd.stands P i.kd).cells ((Evo.unfalse' m).trans ev) (k3 j x hx)⟩, fun _ => ⟨_, _, _, rfl⟩⟩
    have := World.ownsRow_lit (base := 0) (e := e) (size := i.kd.n) W out L (Nat.zero_le _) hmax (by rw [← Array.length_toList, hout, hul])
    rw [hout] at this
    rw [k1]
    exact this

theorem sem_buildSlice (hS : StatOK P S) (hct : CtOK P glb S) (hg : S.glb = glb) (m : Mt P glb Bk X0 w0 st ρ a W) (hlab : memL lab st.dom = false) (hvl : memL (vlab lab) st.dom = false) {t : TypeId} {L : Nat} {ps : Array (Nat × Operand)} (hop : o.op = .buildSlice t L ps)
    (h : optK (S.sl t) fun e => optK (S.ty e) fun i => chk (Nat.ble (L * i.kd.n) 16777216 && Nat.beq ps.toList.length L && Nat.ble 1 i.kd.n) (elemsS S st e i.kd.n 0 ps.toList fun cs => cond (S.lit lab) (litS S st.look lab e i cs L Q) (bslS S st.look lab e i cs Q L))) : OpOut P o a W (Fits P glb Bk X0 w0 st ρ a W Q) := by
  obtain ⟨e, he, h1⟩ := optK_ok h
  obtain ⟨i, hi, h2⟩ := optK_ok h1
  obtain ⟨hb, h3⟩ := chk_iff.1 h2
  simp only [Bool.and_eq_true] at hb
  obtain ⟨⟨hb1, hb2⟩, hb3⟩ := hb
  have hb1 := Nat.le_of_ble_eq_true hb1
  have hb2 := Nat.eq_of_beq_eq_true hb2
  have hb3 := Nat.le_of_ble_eq_true hb3
  obtain ⟨cs, us, h4, hr, hl, hf⟩ := elems_ok hS hg m e i.kd.n _ _ _ h3
  obtain ⟨harg, ⟨inf, z, g1, g2, _, g4, g5⟩, hagg⟩ := hS.ty e i hi
  have ht := hS.sl t e he
  obtain ⟨out, ho, hout⟩ := hf (Array.replicate (L * i.kd.n) undef) (by rw [Nat.zero_add, hb2]; simp)
  have huslen : us.length = L * i.kd.n := by rw [hl, hb2]
  have hout' : out.toList = us := by rw [hout, Nat.zero_mul]; exact splice_all _ _ (by simp [huslen])
  have hpm : (ps.map fun (i, x) => (i, a.eval x)).toList = ps.toList.map fun p => (p.1, a.eval p.2) := by simp
  have hrun : (Instr.buildSlice t L (ps.map fun (i, x) => (i, a.eval x))).run P W = .ok (.slice (some ⟨W.heap.size, 0, none⟩) L L) (W.alloc (.cells out e)) := by
    refine run_buildSlice t e inf z L _ out ht g1 g4 (by rw [g2]; exact hb1) (fun cells hc => ?_)
    rw [g2] at hc ⊢
    obtain ⟨out2, ho2, hout2⟩ := hf cells (by rw [hb2, Nat.zero_add, hc]; exact Nat.le_refl _)
    rw [hpm, ho2]
    have : out2.toList = us := by rw [hout2, Nat.zero_mul]; exact splice_all _ _ (by simp [huslen, hc])
    rw [← hout'] at this
    rw [Array.ext' this]
  have hsz : out.size = L * i.kd.n := by rw [← Array.length_toList, hout', huslen]
  have hmax : L ≤ maxLen := by
    have := Nat.le_trans (Nat.le_mul_of_pos_right L hb3) hb1
    simp only [maxLen]; omega
  have hexec : (execOp a.eval o).run P W = .ok (.value (.slice (some ⟨W.heap.size, 0, none⟩) L L)) (W.alloc (.cells out e)) := by
    unfold execOp; rw [hop]; simp only [Sem.run_bind, hrun]; rfl
  cases hlit : S.lit lab with
  | true =>
    rw [hlit, cond_true] at h4
    refine .inl ⟨_, _, hexec, ?_⟩
    have one : i.kd.n = 1 → us.length = L := fun h => by rw [huslen, h, Nat.mul_one]
    unfold litS at h4
    cases hl6 : S.lit (lab + 6000000) with
    | true =>
      rw [hl6, cond_true] at h4
      exact lit_row hct m hlab hout' huslen hb3 hmax hr h4
    | false =>
    rw [hl6, cond_false] at h4
    split at h4
    · rename_i e1 K1 hk
      have h1 := one (by rw [hk]; rfl)
      rw [← h1]
      exact lit_mat m hlab hvl hout' (by omega) hr h4
    · rename_i e1 K1 hk
      have h1 := one (by rw [hk]; rfl)
      rw [← h1]
      exact lit_mat m hlab hvl hout' (by omega) hr h4
    · exact lit_row hct m hlab hout' huslen hb3 hmax hr h4
  | false =>
  rw [hlit, cond_false] at h4
  cases L with
  | zero =>
    have h4 : cond (S.lit (lab + 5000000)) (Q (.mk false [.fr e i.kd []]) []) (Q (.mk false [.own lab]) [(lab, some (.row true e i.kd []))]) := h4
    cases hlit2 : S.lit (lab + 5000000) with
    | true =>
      rw [hlit2, cond_true] at h4
      exact .inl ⟨_, _, hexec, Fits.frz m [] rfl (below_alloc W _) h4 (fun Xn e1 e2 hXn => ⟨_, rfl, ⟨_, rfl⟩, cells_of_val (K := .sl e i.kd) ⟨_, _, rfl, Nat.le_refl _, Nat.zero_le _, fun hne => absurd rfl hne⟩ rfl⟩)⟩
    | false =>
    rw [hlit2, cond_false] at h4
    refine .inl ⟨_, _, hexec, Fits.new m hlab _ (.slice (some ⟨W.heap.size, 0, none⟩) 0 0) (below_alloc W _) ?_ ?_ h4 (fun X hρ => ⟨_, rfl, hρ, _, _, _, rfl⟩)⟩
    · intro k hk
      rw [ownB_row] at hk
      simp only [ownBlk, Option.some.injEq] at hk
      subst hk
      simp
    · intro _ _
      exact ⟨hb3, ⟨_, World.ownsRow_lit W out 0 (Nat.zero_le _) hmax hsz, fun j x hx => by simp at hx⟩, fun _ => ⟨_, _, _, rfl⟩⟩
  | succ L =>
    unfold bslS at h4
    simp only at h4
    cases hbx : (S.lit (lab + 8000000) && Nat.beq i.kd.n 1 && Nat.ble (L + 1) 1000) with
    | true =>
      rw [hbx, cond_true] at h4
      simp only [Bool.and_eq_true] at hbx
      have hn1 := Nat.eq_of_beq_eq_true hbx.1.2
      have hL := Nat.le_of_ble_eq_true hbx.2
      refine .inl ⟨_, _, hexec, Fits.new m hlab _ (.pointer (some ⟨W.heap.size, 0, none⟩)) (below_alloc W _) ?_ ?_ h4 (fun X hρ => ⟨_, rfl, ⟨W.heap.size, _, hρ, rfl, fun _ => rfl⟩, Nat.zero_le _, Nat.le_refl _, hL⟩)⟩
      · intro k hk
        rw [ownB_box] at hk
        simp only [ownBlk, Option.some.injEq] at hk
        subst hk
        simp
      · intro ev _
        exact ⟨W.heap.size, _, rfl, Go.heap_alloc_new W _, by rw [hout']; exact hr.mono (m.le_put hlab _) ev, fun h => (by cases h), fun _ => Nat.zero_le _⟩
    | false =>
    rw [hbx, cond_false] at h4
    obtain ⟨r, hr1, hQ0⟩ := optK_ok h4
    obtain ⟨xs, ls⟩ := r
    obtain ⟨hln, hQ⟩ := chk_iff.1 hQ0
    obtain ⟨k1, k2, k3⟩ := decList_ok (Z := fun l => memL l ls) (dec1_ok m hct fuel) i.kd (L + 1) cs xs ls us hr1 hr (fun l hl => memL_mem hl)
    refine .inl ⟨_, _, hexec, Fits.frz m ls hln (below_alloc W _) hQ (fun Xn e1 e2 hXn => ?_)⟩
    have hval : ((Kd.sl e i.kd).sem P).val Xn (W.alloc (.cells out e)) xs (.slice (some ⟨W.heap.size, 0, none⟩) (L + 1) (L + 1)) := by
      refine ⟨_, _, by rw [k1], by omega, hmax, fun hne => ⟨_, rfl, fun hx => ?_, by simp, fun j x hj => ?_⟩⟩
      · exact absurd (hXn _ hx) (Nat.lt_irrefl _)
      · refine ⟨_, (Kd.stands P i.kd).cells e2 (k3 j x hj), fun p u hu => ?_⟩
        rw [List.getElem?_take] at hu
        split at hu
        · rw [List.getElem?_drop] at hu
          rw [plainAdd, cell_of_row _ _ _ out e (0, 0) (Go.heap_alloc_new W _)]
          rw [← hout'] at hu
          simpa using hu
        · cases hu
    exact ⟨_, rfl, ⟨_, by rw [k1]⟩, cells_of_val hval rfl⟩

theorem zok_cells (X : Nat → Prop) : ∀ (K : Kd), K.zok = true → (K.sem P).cells X W K.dflt K.zv
  | .pair A B, h => by
    simp only [Kd.zok, Bool.and_eq_true] at h
    exact ⟨_, _, rfl, zok_cells X A h.1, zok_cells X B h.2⟩
  | .unit, _ => rfl
  | .agg K, h => zok_cells X K h
  | .int k, _ => ⟨_, rfl, rfl, rfl⟩
  | .bool, _ => ⟨_, rfl, rfl, rfl⟩
  | .str, _ => ⟨_, rfl, rfl, rfl⟩
  | .sl e K, _ => ⟨_, rfl, rfl, none, 0, rfl, Nat.le_refl _, by unfold maxLen; omega, fun h => absurd rfl h⟩
  | .nsl e K, _ => ⟨_, rfl, rfl, fun _ => rfl, fun xs hx => by cases hx⟩
  | .fn _ _, h => by simp [Kd.zok] at h
  | .ptr _ _, h => by simp [Kd.zok] at h

theorem made_part (z : Array Value) (n j : Nat) (hj : j < n) : ((madeCells z (n * z.size)).toList.drop (j * z.size)).take z.size = z.toList := by
  apply List.ext_getElem?
  intro p
  rw [List.getElem?_take]
  by_cases hp : p < z.size
  · rw [if_pos hp, List.getElem?_drop]
    have hlt : j * z.size + p < n * z.size := by
      have : (j + 1) * z.size ≤ n * z.size := Nat.mul_le_mul_right _ hj
      rw [Nat.succ_mul] at this
      omega
    have hmod : (j * z.size + p) % z.size = p := by rw [Nat.mul_comm, Nat.mul_add_mod, Nat.mod_eq_of_lt hp]
    rw [Array.getElem?_toList, Array.getElem?_toList, madeCells, Array.getElem?_map, Array.getElem?_range, if_pos hlt, Option.map_some, hmod, getElem!_pos z p hp, Array.getElem?_eq_getElem hp]
  · rw [if_neg hp]
    rw [List.getElem?_eq_none (by simp; omega)]

theorem sem_makeSlice (hS : StatOK P S) (hg : S.glb = glb) (m : Mt P glb Bk X0 w0 st ρ a W) (hlab : memL lab st.dom = false) {t : TypeId} {l c : Operand} (hop : o.op = .makeSlice t l c)
    (h : optK (S.sl t) fun e => optK (S.ty e) fun i => chk (i.kd.zok && Nat.ble 1 i.bytes && Nat.ble 1 i.kd.n) (oneI (ev S st o.type l) fun n => oneI (ev S st o.type c) fun m => m = n ∧ 0 ≤ n ∧ n * (i.bytes : Int) ≤ 140737488355328 ∧
      Q (.mk false [.own lab]) [(lab, some (.row true e i.kd (List.replicate n.toNat i.kd.dflt)))])) : OpOut P o a W (Fits P glb Bk X0 w0 st ρ a W Q) := by
  obtain ⟨e, he, h1⟩ := optK_ok h
  obtain ⟨i, hi, h2⟩ := optK_ok h1
  obtain ⟨hb, h3⟩ := chk_iff.1 h2
  simp only [Bool.and_eq_true] at hb
  obtain ⟨⟨hb1, hb2⟩, hb3⟩ := hb
  have hb2 := Nat.le_of_ble_eq_true hb2
  have hb3 := Nat.le_of_ble_eq_true hb3
  obtain ⟨k1, n, h4, hl⟩ := oneI_ok h3 (ev_ok hS hg m _ l)
  obtain ⟨k2, n2, ⟨rfl, h5, h6, hQ⟩, hc⟩ := oneI_ok h4 (ev_ok hS hg m _ c)
  obtain ⟨harg, ⟨inf, z, g1, g2, g3, g4, g5⟩, hagg⟩ := hS.ty e i hi
  have ht := hS.sl t e he
  obtain ⟨N, rfl⟩ := Int.eq_ofNat_of_zero_le h5
  have h6' : N * i.bytes ≤ 140737488355328 := by have := h6; rw [← Int.natCast_mul] at this; omega
  have hN : N ≤ 140737488355328 := Nat.le_trans (Nat.le_mul_of_pos_right N hb2) h6'
  have hmax : N ≤ maxLen := by simp only [maxLen]; omega
  obtain ⟨w', hr, hown, hgrow⟩ := run_make_full (P := P) W 0 t e inf z i.kd.n ht g1 g4 g2 k1 k2 N (by rw [g3, Nat.mul_comm]; omega) hmax (Nat.zero_le _)
  have hzs : z.cells.size = i.kd.n := by rw [← Array.length_toList, g5, zv_length]
  refine .inl ⟨_, w', exec_v (s := Instr.makeSlice t (a.eval l) (a.eval c)) (by unfold execOp; rw [hop]) (by rw [hl, hc]; exact hr), ?_⟩
  refine Fits.new m hlab _ (.slice (some ⟨W.heap.size, 0, none⟩) N N) ⟨hgrow.os, hgrow.tape, hgrow.output, hgrow.size, fun k hk => hgrow.block k hk (by simp)⟩ ?_ ?_ hQ (fun X hρ => ⟨_, rfl, hρ, _, _, _, rfl⟩)
  · intro k hk
    rw [ownB_row] at hk
    simp only [ownBlk, Option.some.injEq] at hk
    subst hk
    refine ⟨Nat.le_refl _, ?_⟩
    exact (hown.lt _ rfl).2
  · intro _ _
    refine ⟨hb3, ⟨_, by rw [List.length_replicate]; exact hown, fun j x hx => ?_⟩, fun _ => ⟨_, _, _, rfl⟩⟩
    rw [List.getElem?_replicate] at hx
    split at hx
    · rename_i hj
      cases hx
      have hj' : j < N := by simpa using hj
      have := made_part z.cells N j hj'
      rw [hzs] at this
      rw [this, g5]
      exact zok_cells _ _ hb1
    · cases hx
end
end Go.GX
set_option linter.unusedVariables false
namespace Go.GX
variable [Inhabited BaseD]
open Go.RowKit Go.Shelf Go.Proofs

theorem splice_get {α : Type} (l : List α) (o : Nat) (u : List α) (h : o + u.length ≤ l.length) (i : Nat) : (splice l o u)[i]? = if i < o then l[i]? else if i < o + u.length then u[i - o]? else l[i]? := by
  have h1 : (l.take o).length = o := by simp; omega
  unfold splice
  by_cases hi : i < o
  · rw [if_pos hi, List.append_assoc, List.getElem?_append_left (by omega), List.getElem?_take, if_pos hi]
  · rw [if_neg hi]
    by_cases hj : i < o + u.length
    · rw [if_pos hj, List.append_assoc, List.getElem?_append_right (by omega), List.getElem?_append_left (by omega), h1]
    · rw [if_neg hj, List.getElem?_append_right (by simp; omega), List.getElem?_drop]
      congr 1
      simp
      omega

theorem take_splice {α : Type} (l : List α) (o N : Nat) (u : List α) (h : o + u.length ≤ N) (hN : N ≤ l.length) : (splice l o u).take N = splice (l.take N) o u := by
  apply List.ext_getElem?
  intro i
  rw [List.getElem?_take, splice_get l o u (by omega), splice_get (l.take N) o u (by simp; omega), List.getElem?_take]
  by_cases h1 : i < N <;> by_cases h2 : i < o <;> by_cases h3 : i < o + u.length <;> simp [h1, h2, h3] <;> omega

theorem part_splice {α : Type} (l : List α) (p n off : Nat) (u : List α) (h : off + u.length ≤ n) (hl : p + n ≤ l.length) : ((splice l (p + off) u).drop p).take n = splice ((l.drop p).take n) off u := by
  apply List.ext_getElem?
  intro i
  rw [List.getElem?_take, List.getElem?_drop, splice_get l (p + off) u (by omega), splice_get _ off u (by simp; omega), List.getElem?_take, List.getElem?_drop]
  by_cases h1 : i < n
  · by_cases h2 : i < off
    · simp [h1, h2]
    · by_cases h3 : i < off + u.length
      · have e1 : p + i < p + off + u.length := by omega
        have e2 : p + i - (p + off) = i - off := by omega
        simp [h1, h2, h3, e1, e2]
      · have e1 : ¬ p + i < p + off + u.length := by omega
        simp [h1, h2, h3, e1]
  · have e2 : ¬ i < off := by omega
    have e3 : ¬ i < off + u.length := by omega
    simp [h1, e2, e3]

theorem part_splice_other {α : Type} (l : List α) (p q n off : Nat) (u : List α) (h : off + u.length ≤ n) (hl : p + n ≤ l.length) (hpq : q + n ≤ p ∨ p + n ≤ q) : ((splice l (p + off) u).drop q).take n = (l.drop q).take n := by
  apply List.ext_getElem?
  intro i
  rw [List.getElem?_take, List.getElem?_drop, splice_get l (p + off) u (by omega), List.getElem?_take, List.getElem?_drop]
  by_cases h1 : i < n
  · by_cases h2 : q + i < p + off
    · simp [h1, h2]
    · have h3 : ¬ q + i < p + off + u.length := by omega
      simp [h1, h2, h3]
  · simp [h1]

section
variable {P : Program} {glb : Nat → Option GV} {Bk X0 : Nat → Prop} {w0 : World} {st : St} {ρ : Lab} {a : Act} {W W' : World} {S : Stat} {dr : Bool} {lab : Nat} {o : Oper} {Q : Eff} {Z : Nat → Bool}

theorem Mt.updR (m : Mt P glb Bk X0 w0 st ρ a W) {l : Nat} {he : HE} {s : Nat} {v : Value} {row : Option Nat} (hl : st.hp l = some (he, s)) (hv : ρ l = some v) (h0 : ∀ k, row = some k → OwnB ρ he v k) (hln : he.isLn = false) (he' : HE) (h0' : ∀ k, OwnB ρ he' v k → OwnB ρ he v k)
    (hgr : W.grownBy W' row) (hok : Evo (Xs st ρ X0) W (Xs (st.upds [(l, some he')]) ρ X0) W' → HEok P 0 ρ (Xs (st.upds [(l, some he')]) ρ X0) W' he' v) : Mt P glb Bk X0 w0 (st.upds [(l, some he')]) ρ a W' := by
  have hhp : (st.upds [(l, some he')]).hp = updf st.hp l (some (he', st.cnt + 1)) := rfl
  have hother : ∀ k, ¬ (k = l) → (st.upds [(l, some he')]).hp k = st.hp k := fun k hk => by rw [hhp, updf_other _ _ hk]
  have hself : ∀ h s, (st.upds [(l, some he')]).hp l = some (h, s) → h = he' ∧ s = st.cnt + 1 := by
    intro h s hh
    rw [hhp, updf_same] at hh
    cases hh
    exact ⟨rfl, rfl⟩
  refine m.gen (· = l) (fun k h s' hk hh => by subst hk; rw [hl] at hh; cases hh; exact hln) rfl rfl hother ρ.le_refl ?_ ?_ hgr.os hgr.tape hgr.output hgr.size ?_ ?_ ?_ ?_
  · intro k u hu
    show memL k (l :: st.dom) = true
    rw [memL_cons, m.dom k u hu]; simp
  · intro k h s' hk
    show s' ≤ st.cnt + 1
    by_cases hkl : k = l
    · subst hkl
      rw [(hself h s' hk).2]; exact Nat.le_refl _
    · rw [hother k hkl] at hk
      have := m.stamp k h s' hk
      omega
  · intro k hk hne
    refine hgr.block k hk (fun e => ?_)
    exact hne l he s v rfl hl hv (h0 k e.symm)
  · rintro k h s' u j rfl h1 h2 h3
    obtain ⟨rfl, _⟩ := hself h s' h1
    rw [hv] at h2; cases h2
    have hj := h0' j h3
    obtain ⟨v2, hv2, hok2⟩ := m.hps k he s hl
    rw [hv] at hv2; cases hv2
    exact ⟨Nat.lt_of_lt_of_le (hok2.lt hj).2 hgr.size, .inr ⟨k, he, s, v, rfl, hl, hv, hj⟩⟩
  · rintro e k h s' rfl h1
    obtain ⟨rfl, _⟩ := hself h s' h1
    exact ⟨v, hv, hok e⟩
  · rintro k k' _ _ _ _ _ _ _ rfl rfl _ _ _ _ _ _
    rfl

theorem Mt.upd (m : Mt P glb Bk X0 w0 st ρ a W) {l : Nat} {he : HE} {s : Nat} {v : Value} {k0 : Nat} (hl : st.hp l = some (he, s)) (hv : ρ l = some v) (h0 : OwnB ρ he v k0) (hln : he.isLn = false) (he' : HE) (h0' : ∀ k, OwnB ρ he' v k → OwnB ρ he v k)
    (hgr : W.grownBy W' (some k0)) (hok : Evo (Xs st ρ X0) W (Xs (st.upds [(l, some he')]) ρ X0) W' → HEok P 0 ρ (Xs (st.upds [(l, some he')]) ρ X0) W' he' v) : Mt P glb Bk X0 w0 (st.upds [(l, some he')]) ρ a W' :=
  m.updR hl hv (fun k e => by cases e; exact h0) hln he' h0' hgr hok

theorem Evo.unfalse (m : Mt P glb Bk X0 w0 st ρ a W) : Evo (Xl st ρ X0 (fun _ => false)) W (Xs st ρ X0) W := Evo.mono m.Xlt (fun k => xl_false)

theorem grown_setRow (W : World) (g : Nat) (cs : Array Value) : W.grownBy (W.setRow g cs) (some g) :=
  ⟨rfl, rfl, rfl, by simp, fun k _ hk => setRow_other W g k cs (fun e => hk (by rw [e]))⟩

theorem run_storeVar_at (t : TypeId) (n : Nat) (g off : Nat) (ty : TypeId) (cur : Array Value) (v : Value) (hs : (sizeOf t).run P W = .ok n W) (hn : v.cells.size = n) (hg : W.heap[g]? = some (.cells cur ty (0, 0))) (hle : off + n ≤ cur.size) (h1 : ∀ u ∈ v.cells.toList, u.oneCell' = true) :
    (Instr.storeAt t (.pointer (some ⟨g, off, none⟩)) v).run P W = .ok () (W.setRow g (splice cur.toList off v.cells.toList).toArray) := by
  have := run_storeCells_at (P := P) g off ty v.cells.toList 0 cur W hg (by simp; omega) h1
  simp only [Nat.add_zero] at this
  simp [Instr.storeAt, Instr.sureAddr, storeVar, hs, hn, this, splice]

theorem row_store {g cc n sz : Nat} {e : TypeId} {cur : Array Value} {flat : List Value} (k2 : W.heap[g]? = some (.cells cur e (0, 0))) (ho1 : flat.length = n * sz) (k3 : n ≤ cc) (k4 : cc ≤ maxLen) (k5 : cur.size = cc * sz) (k6 : cur.toList.take (n * sz) = flat)
    {j off : Nat} {us : List Value} (hj : j < n) (hle : off + us.length ≤ sz) :
    (W.setRow g (splice cur.toList (j * sz + off) us).toArray).ownsRow 0 e sz (.slice (some ⟨g, 0, none⟩) n cc) n (splice flat (j * sz + off) us) ∧ ((splice flat (j * sz + off) us).drop (j * sz)).take sz = splice ((flat.drop (j * sz)).take sz) off us ∧
      ∀ j', j' ≠ j → j' < n → ((splice flat (j * sz + off) us).drop (j' * sz)).take sz = (flat.drop (j' * sz)).take sz := by
  have hjn : j * sz + sz ≤ n * sz := by rw [← Nat.succ_mul]; exact Nat.mul_le_mul_right _ hj
  have hcap : n * sz ≤ cc * sz := Nat.mul_le_mul_right _ k3
  refine ⟨⟨?_, .inr ⟨g, cc, _, rfl, Nat.zero_le _, setRow_heap W g cur _ e _ k2, k3, k4, ?_, ?_⟩⟩, part_splice _ _ _ _ _ (by omega) (by omega), fun j' hjj hj' => ?_⟩
  · rw [splice_length _ _ _ (by omega), ho1]
  · rw [List.size_toArray, splice_length _ _ _ (by simp; omega), Array.length_toList, k5]
  · show (splice cur.toList _ _).take _ = _
    rw [take_splice _ _ _ _ (by omega) (by simp; omega), k6]
  · have hj2 : j' * sz + sz ≤ n * sz := by rw [← Nat.succ_mul]; exact Nat.mul_le_mul_right _ hj'
    exact part_splice_other _ _ _ _ _ _ (by omega) (by omega) (by
      rcases Nat.lt_or_gt_of_ne hjj with hlt | hgt
      · left; rw [← Nat.succ_mul]; exact Nat.mul_le_mul_right _ hlt
      · right; rw [← Nat.succ_mul]; exact Nat.mul_le_mul_right _ hgt)

theorem Mt.setInner (m : Mt P glb Bk X0 w0 st ρ a W) (hvl : memL (vlab lab) st.dom = false) {l : Nat} {nn : Bool} {e : TypeId} {ag : Bool} {e1 : TypeId} {K1 : Kd} {xs : List (List K1.T)} {hole : Option Nat} {vl s : Nat} {b : Addr} {n cc j : Nat} {cs : List SC} {p : List (List K1.T) × List Nat} {x : Value} {t : TypeId} {k : Nat}
    (hs : st.hp l = some (.mat nn e ag e1 K1 xs hole vl, s)) (hρ : ρ l = some (.slice (some b) n cc)) (hj : j < n) (hp : rowsL st.look e1 K1 cs = some p) {X : Nat → Prop} (hcs : RepCs P ρ X W cs x.cells.toList) (hcs1 : x.cells.toList.length = 1) (hlp : memL l p.2 = false) (hh : holeS hole j)
    (hsz : (sizeOf t).run P W = .ok k W) (hk : x.cells.size = k) :
    ∃ W', (Instr.storeAt t (.pointer (some (b.add (j * 1 + 0)))) x).run P W = .ok () W' ∧ Mt P glb Bk X0 w0 (st.upds ((p.2.map fun m => (m, none)) ++ [(vlab lab, none), (l, some (.mat nn e ag e1 K1 (xs.set j (p.1.getD 0 [])) none (vlab lab)))])) (ρ.put (vlab lab) (.tuple (((ρ vl).elim [] fun | .tuple us => us.toList | _ => []).set j (x.cells.toList.getD 0 undef)).toArray)) a W' ∧
      ρ.le (ρ.put (vlab lab) (.tuple (((ρ vl).elim [] fun | .tuple us => us.toList | _ => []).set j (x.cells.toList.getD 0 undef)).toArray)) ∧ W.heap.size ≤ W'.heap.size := by
  obtain ⟨v, hv, ⟨us, hu, mo⟩, hnn⟩ := m.hps l _ s hs
  rw [hρ] at hv; injection hv with hv; subst hv
  rw [hu]
  simp only [Option.elim_some, List.toList_toArray]
  obtain ⟨u0, hu0⟩ : ∃ u0, x.cells.toList = [u0] := by
    match hx : x.cells.toList, hcs1 with
    | [u0], _ => exact ⟨u0, rfl⟩
  rw [hu0] at hcs ⊢
  have hu0s : x.cells.size = 1 := by rw [← Array.length_toList, hu0]; rfl
  simp only [List.getD_cons_zero]
  obtain ⟨g1, g2, g3, g4, g5⟩ := rowsL_ok m mo.flat cs p.1 p.2 [u0] hp hcs
  obtain ⟨hd, ⟨ho1, ho2⟩, hhd⟩ := mo.out
  rcases ho2 with ⟨h, _⟩ | ⟨g, cap, cur, hvv, k1, k2, k3, k4, k5, k6⟩
  · cases h
  · injection hvv with q1 q2 q3
    injection q1 with q1
    subst q1; subst q2; subst q3
    obtain ⟨s1, s2, s3⟩ := row_store (W := W) (e := e) k2 ho1 k3 k4 k5 k6 hj (off := 0) (us := [u0]) (Nat.le_refl _)
    have hrun := run_storeVar_at t k g (j * 1 + 0) e cur x hsz hk k2 (by rw [k5]; omega) (by rw [hu0]; exact hcs.one)
    rw [hu0] at hrun
    rw [plainAdd, Nat.zero_add]
    have hle := m.le_put hvl (.tuple (us.set j u0).toArray)
    have hulen : us.length = xs.length := mo.len
    have hxr : p.1[0]? = some (p.1.getD 0 []) := by
      have : 0 < p.1.length := by rw [← g1]; simp
      rw [List.getD_eq_getElem?_getD, List.getElem?_eq_getElem this]; rfl
    have hin0 : InRow P W e1 K1 (p.1.getD 0 []) u0 := g2 0 u0 _ rfl hxr
    have hnew : ∀ q, u0.ownBlock = some q → ∃ l' he' s', l' ∈ p.2 ∧ st.hp l' = some (he', s') ∧ ρ l' = some u0 ∧ OwnB ρ he' u0 q := fun q hq => g3 0 u0 q rfl hq
    have hl2 : ∀ l', l' ∈ p.2 → l' ≠ l := fun l' hl' hh => by subst hh; rw [memL_mem hl'] at hlp; cases hlp

    have far : ∀ q, u0.ownBlock = some q → ∀ k', OwnB ρ (.mat nn e ag e1 K1 xs hole vl) (.slice (some ⟨g, 0, none⟩) xs.length cc) k' → q ≠ k' := by
      intro q hq k' hk' hqk
      subst hqk
      obtain ⟨l', he', s', q0, q1, q2, q3⟩ := hnew q hq
      exact hl2 l' q0 (m.dis l' l he' _ s' s u0 _ q q1 hs q2 hρ q3 hk')
    have notHole : ∀ j', j' ≠ j → isHole hole j' = false := by
      intro j' hne
      unfold isHole
      cases hole with
      | none => rfl
      | some h => have hh : h = j := hh; subst hh; exact beq_ne (Ne.symm hne)
    have hmat : MatOK P (W.setRow g (splice cur.toList (j * 1 + 0) [u0]).toArray) e e1 K1 (xs.set j (p.1.getD 0 [])) none (us.set j u0) (.slice (some ⟨g, 0, none⟩) xs.length cc) := by
      have keep : ∀ k', k' ≠ g → (W.setRow g (splice cur.toList (j * 1 + 0) [u0]).toArray).heap[k']? = W.heap[k']? := fun k' hk' => setRow_other W g k' _ hk'
      refine ⟨mo.flat, mo.pos, by simp [hulen], ⟨splice hd (j * 1 + 0) [u0], by rw [List.length_set]; exact s1, fun j' u hj' _ => ?_⟩, fun j' u xr hj' hx _ => ?_, fun j' j2 u u' q hne hj' hj2 _ _ hq => ?_, fun j' u q hj' _ hq => ?_⟩
      · by_cases hjj : j' = j
        · subst hjj
          rw [List.getElem?_set] at hj'
          simp only [if_true, hulen, hj] at hj'
          cases hj'
          rw [splice_get hd (j' * 1 + 0) [u0] (by rw [ho1]; simp; omega)]
          rw [if_neg (by omega), if_pos (by simp)]
          simp
        · rw [List.getElem?_set_ne (Ne.symm hjj)] at hj'
          have hlt' : j' < xs.length := by rw [← hulen]; exact (List.getElem?_eq_some_iff.1 hj').1
          have := congrArg (fun z => z[0]?) (s3 j' hjj hlt')
          simp only [List.getElem?_take, List.getElem?_drop, Nat.mul_one, Nat.add_zero, Nat.lt_one_iff, if_true] at this
          rw [Nat.mul_one, Nat.add_zero, this]
          exact hhd j' u hj' (notHole j' hjj)
      · by_cases hjj : j' = j
        · subst hjj
          rw [List.getElem?_set] at hj' hx
          simp only [if_true, hulen, hj] at hj' hx
          cases hj'; cases hx
          refine hin0.keep mo.flat (fun q hq => keep q (fun hqg => ?_))
          subst hqg
          exact far q hq q ((mat_own hu).2 (.inl rfl)) rfl
        · rw [List.getElem?_set_ne (Ne.symm hjj)] at hj' hx
          refine (mo.inr j' u xr hj' hx (notHole j' hjj)).keep mo.flat (fun q hq => keep q (fun hqg => ?_))
          subst hqg
          exact mo.apart j' u q hj' (notHole j' hjj) hq rfl
      · by_cases h1 : j' = j <;> by_cases h2 : j2 = j
        · exact absurd (h1.trans h2.symm) hne
        · subst h1
          rw [List.getElem?_set] at hj'
          simp only [if_true, hulen, hj] at hj'
          cases hj'
          rw [List.getElem?_set_ne (Ne.symm h2)] at hj2
          intro hq2
          exact far q hq q ((mat_own hu).2 (.inr ⟨j2, u', notHole j2 h2, hj2, hq2⟩)) rfl
        · subst h2
          rw [List.getElem?_set] at hj2
          simp only [if_true, hulen, hj] at hj2
          cases hj2
          rw [List.getElem?_set_ne (Ne.symm h1)] at hj'
          intro hq2
          exact far q hq2 q ((mat_own hu).2 (.inr ⟨j', u, notHole j' h1, hj', hq⟩)) rfl
        · rw [List.getElem?_set_ne (Ne.symm h1)] at hj'
          rw [List.getElem?_set_ne (Ne.symm h2)] at hj2
          exact mo.dis j' j2 u u' q hne hj' hj2 (notHole j' h1) (notHole j2 h2) hq
      · by_cases hjj : j' = j
        · subst hjj
          rw [List.getElem?_set] at hj'
          simp only [if_true, hulen, hj] at hj'
          cases hj'
          intro hg
          exact far q hq q ((mat_own hu).2 (.inl hg)) rfl
        · rw [List.getElem?_set_ne (Ne.symm hjj)] at hj'
          exact mo.apart j' u q hj' (notHole j' hjj) hq
    have hmem : ∀ l', memL l' (((p.2.map fun m => ((m, none) : Nat × Option HE)) ++ [((vlab lab, none) : Nat × Option HE), (l, some (HE.mat nn e ag e1 K1 (xs.set j (p.1.getD 0 [])) none (vlab lab)))]).map (·.1)) = true ↔ l' ∈ p.2 ∨ l' = vlab lab ∨ l' = l := by
      intro l'
      rw [memL_iff]
      simp
    have hρV : (ρ.put (vlab lab) (.tuple (us.set j u0).toArray)) (vlab lab) = some (.tuple (us.set j u0).toArray) := Lab.put_same _ _ _
    have hlv : l ≠ vlab lab := by
      intro hh; subst hh
      rw [m.dom _ _ hρ] at hvl; cases hvl
    refine ⟨_, hrun, (m.adopt (W' := W.setRow g (splice cur.toList (j * 1 + 0) [u0]).toArray) _ l (.mat nn e ag e1 K1 (xs.set j (p.1.getD 0 [])) none (vlab lab)) (.slice (some ⟨g, 0, none⟩) xs.length cc) ?_ ?_ hle (hle l _ hρ) ?_ rfl rfl rfl (by simp) ?_ ?_ ?_).1, hle, by simp⟩
    · intro l' he h
      refine lastU_nones (l := l') ((p.2.map fun m => ((m, none) : Nat × Option HE)) ++ [(vlab lab, none)]) (fun x hx => ?_) (by rw [List.append_assoc]; exact h)
      rcases List.mem_append.1 hx with hx | hx
      · obtain ⟨l', _, rfl⟩ := List.mem_map.1 hx; rfl
      · rcases List.mem_singleton.1 hx with rfl; rfl
    · intro l' he s' hl' h
      rcases (hmem l').1 hl' with hl' | rfl | rfl
      · obtain ⟨nn', e', K', ys, s2, hs2⟩ := g5 l' hl'
        rw [hs2] at h; cases h; rfl
      · exact absurd h (m.nolab hvl he s')
      · rw [hs] at h; cases h; rfl
    · intro l' v hv
      by_cases h2 : l' = vlab lab
      · exact .inr ((hmem l').2 (.inr (.inl h2)))
      · rw [Lab.put_other _ _ h2] at hv
        exact .inl hv
    · intro k' hk' hno
      refine setRow_other W g k' _ (fun hkg => ?_)
      subst hkg
      exact hno l _ s _ ((hmem l).2 (.inr (.inr rfl))) hs hρ ((mat_own hu).2 (.inl rfl))
    · intro k' hb
      have hh : HEok P 0 (ρ.put (vlab lab) (.tuple (us.set j u0).toArray)) (fun _ => False) (W.setRow g (splice cur.toList (j * 1 + 0) [u0]).toArray) (.mat nn e ag e1 K1 (xs.set j (p.1.getD 0 [])) none (vlab lab)) (.slice (some ⟨g, 0, none⟩) xs.length cc) := ⟨⟨_, hρV, hmat⟩, hnn⟩
      refine ⟨(hh.lt hb).2, .inr ?_⟩
      rcases (mat_own hρV).1 hb with h | ⟨j', u, _, h1, h2⟩
      · exact ⟨l, _, s, _, (hmem l).2 (.inr (.inr rfl)), hs, hρ, (mat_own hu).2 (.inl h)⟩
      · by_cases hjj : j' = j
        · subst hjj
          rw [List.getElem?_set] at h1
          simp only [if_true, hulen, hj] at h1
          cases h1
          obtain ⟨l', he', s', q0, q1, q2, q3⟩ := hnew k' h2
          exact ⟨l', he', s', _, (hmem l').2 (.inl q0), q1, q2, q3⟩
        · rw [List.getElem?_set_ne (Ne.symm hjj)] at h1
          exact ⟨l, _, s, _, (hmem l).2 (.inr (.inr rfl)), hs, hρ, (mat_own hu).2 (.inr ⟨j', u, notHole j' hjj, h1, h2⟩)⟩
    · intro _
      exact ⟨⟨_, hρV, hmat⟩, hnn⟩

theorem sem_store (hS : StatOK P S) (hct : CtOK P glb S) (hg : S.glb = glb) (m : Mt P glb Bk X0 w0 st ρ a W) (hvl : memL (vlab lab) st.dom = false) {t : TypeId} {y x : Operand} (hop : o.op = .store t y x)
    (h : optK (S.ty t) fun i => oneC (ev S st t y) fun c => cellsOf (ev S st t x) fun cs => chk (Nat.beq cs.length i.kd.n)
      (match c with
      | .ptr l off => match st.look l with
        | some (.box true ty ds) => chk (Nat.ble (off + cs.length) ds.length) (Q .any [(l, some (.box true ty (splice ds off cs)))])
        | _ => False
      | .ep l j sz off => match st.look l with
        | some (.row nn e K xs) => chk (Nat.ble (off + cs.length) K.n && Nat.beq sz K.n) (match decs (dec1 S st.look fuel) K (splice (K.fl (xs.getD j K.dflt)) off cs) with
          | some (x, [], ls) => chk ls.isEmpty (Q .any [(l, some (.row nn e K (xs.set j x)))])
          | _ => False)
        | some (.mat nn e ag e1 K1 xs hole _) => chk (Nat.beq sz 1 && Nat.beq off 0 && Nat.beq cs.length 1) (optK (rowsL st.look e1 K1 cs) fun p => chk (!memL l p.2) (holeS hole j ∧
            Q .any ((p.2.map fun m => (m, none)) ++ [(vlab lab, none), (l, some (.mat nn e ag e1 K1 (xs.set j (p.1.getD 0 [])) none (vlab lab)))])))
        | _ => False
      | .iep l vl j i sz off => match st.look l with
        | some (.mat nn e ag e1 K1 xs none vl') => chk (Nat.beq vl vl' && Nat.ble (off + cs.length) K1.n && Nat.beq sz K1.n) (match decs (dec1 S st.look fuel) K1 (splice (K1.fl ((xs.getD j []).getD i K1.dflt)) off cs) with
          | some (x, [], ls) => chk ls.isEmpty (Q .any [(l, some (.mat nn e ag e1 K1 (xs.set j ((xs.getD j []).set i x)) none vl))])
          | _ => False)
        | _ => False
      | .pt l off n j => match st.look l with
        | some (.box true ty ds) => chk (Nat.ble (off + n) ds.length) (optK (setD j ((ds.drop off).take n) cs) fun ds' => Q .any [(l, some (.box true ty (ds.take off ++ (ds' ++ ds.drop (off + n)))))])
        | _ => False
      | _ => False)) : OpOut P o a W (Fits P glb Bk X0 w0 st ρ a W Q) := by
  obtain ⟨i, hi, g1⟩ := optK_ok h
  obtain ⟨c, g2, hc⟩ := oneC_ok g1 (ev_ok hS hg m t y)
  obtain ⟨cs, g3, hcs⟩ := cellsOf_ok g2 (ev_ok hS hg m t x)
  obtain ⟨hn, g4⟩ := chk_iff.1 g3
  clear h g1 g2 g3
  have hn := Nat.eq_of_beq_eq_true hn
  have hsz := run_sizeOf hS hi W
  have hlen := hcs.length
  have hlen' : (a.eval x).cells.size = i.kd.n := by rw [← Array.length_toList, hlen, hn]
  have exec : ∀ W', (Instr.storeAt t (a.eval y) (a.eval x)).run P W = .ok () W' → (execOp a.eval o).run P W = .ok .skip W' := by
    intro W' hr
    exact exec_u (s := Instr.storeAt t (a.eval y) (a.eval x)) (by unfold execOp; rw [hop]) hr
  cases c with
  | ptr l off =>
    obtain ⟨b, hρ, hy⟩ := hc
    simp only at g4
    split at g4
    · rename_i ty ds hl
      obtain ⟨hle, hQ⟩ := chk_iff.1 g4
      have hle := Nat.le_of_ble_eq_true hle
      obtain ⟨s, hs⟩ := look_some hl
      obtain ⟨v', hv', hok⟩ := m.hps l _ s hs
      rw [hρ] at hv'; injection hv' with hv'; subst hv'
      obtain ⟨b', arr, he, hb, hds, hno, hlo⟩ := hok
      injection he with he; injection he with he; injection he with he
      subst he
      have hdl := hds.length
      simp only [Array.length_toList] at hdl
      have hrun := run_storeVar_at t i.kd.n b off ty arr (a.eval x) hsz hlen' hb (by omega) hcs.one
      rw [← hy] at hrun
      refine .inr (.inl ⟨_, exec _ hrun, .any, _, ρ, hQ, ρ.le_refl, ?_, trivial, by simp⟩)
      refine m.upd hs hρ (.inl rfl) rfl _ (fun k hk => ?_) (grown_setRow W b _) (fun e => ?_)
      · rw [ownB_box] at hk ⊢
        exact hk
      · refine ⟨b, _, rfl, setRow_heap W b arr _ ty _ hb, ?_, fun h => (by cases h), hlo⟩
        exact (hds.splice off hcs).mono ρ.le_refl e
    · exact g4.elim
  | pt l off n j =>
    obtain ⟨⟨b, hρ, hy⟩, hj0, hj1⟩ := hc
    simp only at g4
    split at g4
    · rename_i ty ds hl
      obtain ⟨hle, g5⟩ := chk_iff.1 g4
      have hle := Nat.le_of_ble_eq_true hle
      obtain ⟨ds', hd, hQ⟩ := optK_ok g5
      obtain ⟨s, hs⟩ := look_some hl
      obtain ⟨v', hv', hok⟩ := m.hps l _ s hs
      rw [hρ] at hv'; injection hv' with hv'; subst hv'
      obtain ⟨b', arr, he, hb, hds, hno, hlo⟩ := hok
      injection he with he; injection he with he; injection he with he
      subst he
      have hdl := hds.length
      simp only [Array.length_toList] at hdl
      obtain ⟨k1, k2, k3⟩ := setD_ok hd ((hds.drop off).take n) hcs hj0 (by rw [List.length_take, List.length_drop]; omega)
      have hn1 : i.kd.n = 1 := by omega
      have hrun := run_storeVar_at t i.kd.n b (off + j.toNat) ty arr (a.eval x) hsz hlen' hb (by omega) hcs.one
      rw [← hy] at hrun
      refine .inr (.inl ⟨_, exec _ hrun, .any, _, ρ, hQ, ρ.le_refl, ?_, trivial, by simp⟩)
      refine m.upd hs hρ (.inl rfl) rfl _ (fun k hk => ?_) (grown_setRow W b _) (fun e => ?_)
      · rw [ownB_box] at hk ⊢
        exact hk
      · refine ⟨b, _, rfl, setRow_heap W b arr _ ty _ hb, ?_, fun h => (by cases h), hlo⟩
        have := (hds.take off).append (k1.append (hds.drop (off + n)))
        have hjn : j.toNat < n := by omega
        have e2 : arr.toList.take off ++ (splice ((arr.toList.drop off).take n) j.toNat (a.eval x).cells.toList ++ arr.toList.drop (off + n)) = splice arr.toList (off + j.toNat) (a.eval x).cells.toList := by
          obtain ⟨w, hw⟩ := List.length_eq_one_iff.1 k3
          rw [hw, splice_set ((arr.toList.drop off).take n) j.toNat w (by rw [List.length_take, List.length_drop, Array.length_toList]; omega), splice_set arr.toList (off + j.toNat) w (by rw [Array.length_toList]; omega)]
          refine List.ext_getElem? fun i => ?_
          by_cases h1 : i < off
          · rw [List.getElem?_append_left (by rw [List.length_take, Array.length_toList]; omega), List.getElem?_take, if_pos h1, List.getElem?_set_ne (by omega)]
          · have hl1 : (arr.toList.take off).length = off := by rw [List.length_take, Array.length_toList]; omega
            rw [List.getElem?_append_right (by omega), hl1]
            by_cases h2 : i < off + n
            · rw [List.getElem?_append_left (by rw [List.length_set, List.length_take, List.length_drop, Array.length_toList]; omega)]
              by_cases h3 : i = off + j.toNat
              · subst h3
                rw [show off + j.toNat - off = j.toNat by omega, List.getElem?_set_self (by rw [List.length_take, List.length_drop, Array.length_toList]; omega), List.getElem?_set_self (by rw [Array.length_toList]; omega)]
              · rw [List.getElem?_set_ne (by omega), List.getElem?_set_ne (by omega), List.getElem?_take, if_pos (by omega), List.getElem?_drop, show off + (i - off) = i by omega]
            · have hl2 : (((arr.toList.drop off).take n).set j.toNat w).length = n := by rw [List.length_set, List.length_take, List.length_drop, Array.length_toList]; omega
              rw [List.getElem?_append_right (by omega), hl2, List.getElem?_drop, List.getElem?_set_ne (by omega), show off + n + (i - off - n) = i by omega]
        rw [e2] at this
        exact this.mono ρ.le_refl e
    · exact g4.elim
  | ep l j sz off =>
    obtain ⟨b, n, cc, hρ, hy, hj⟩ := hc
    simp only at g4
    split at g4
    · rename_i nn e K xs hl
      obtain ⟨hb, g5⟩ := chk_iff.1 g4
      simp only [Bool.and_eq_true] at hb
      have hle := Nat.le_of_ble_eq_true hb.1
      have hsz' := Nat.eq_of_beq_eq_true hb.2
      subst hsz'
      split at g5
      · rename_i x' ls hd
        obtain ⟨hls, hQ⟩ := chk_iff.1 g5
        have hls : ls = [] := by simpa using hls
        subst hls
        obtain ⟨s, hs⟩ := look_some hl
        obtain ⟨v', hv', hok⟩ := m.hps l _ s hs
        rw [hρ] at hv'; injection hv' with hv'; subst hv'
        obtain ⟨h0, ⟨flat, ⟨ho1, ho2⟩, hcell⟩, hnn⟩ := hok
        rcases ho2 with ⟨hh, _⟩ | ⟨g, cap, cur, hvv, k1, k2, k3, k4, k5, k6⟩
        · cases hh
        · injection hvv with q1 q2 q3
          injection q1 with q1
          subst q1; subst q2; subst q3
          have hjn : j * K.n + K.n ≤ xs.length * K.n := by rw [← Nat.succ_mul]; exact Nat.mul_le_mul_right _ hj
          have hcap : xs.length * K.n ≤ cc * K.n := Nat.mul_le_mul_right _ k3
          have hxj : xs[j]? = some (xs.getD j K.dflt) := by rw [List.getD_eq_getElem?_getD, List.getElem?_eq_getElem hj]; rfl
          have hcj := hcell j _ hxj
          obtain ⟨v1, v2, hsp, hc1, hc2⟩ := decs_ok (Z := fun _ => false) (dec1_ok m hct fuel) K _ x' [] [] (splice ((flat.drop (j * K.n)).take K.n) off (a.eval x).cells.toList) hd ((RepCs.of_cells K hcj).splice off hcs) (by simp)
          have : v2 = [] := hc2
          subst this
          rw [List.append_nil] at hsp
          have hrun := run_storeVar_at t i.kd.n g (j * K.n + off) e cur (a.eval x) hsz hlen' k2 (by omega) hcs.one
          rw [plainAdd, Nat.zero_add] at hy
          rw [← hy] at hrun
          refine .inr (.inl ⟨_, exec _ hrun, .any, _, ρ, hQ, ρ.le_refl, ?_, trivial, by simp⟩)
          refine m.upd hs hρ (.inl rfl) rfl _ (fun k hk => ?_) (grown_setRow W g _) (fun ee => ?_)
          · rw [ownB_row] at hk ⊢
            exact hk
          · have hul : (a.eval x).cells.toList.length = cs.length := hlen
            refine ⟨h0, ⟨splice flat (j * K.n + off) (a.eval x).cells.toList, ⟨?_, .inr ⟨g, cc, _, ?_, k1, setRow_heap W g cur _ e _ k2, ?_, k4, ?_, ?_⟩⟩, fun j' y hy' => ?_⟩, hnn⟩
            · rw [splice_length _ _ _ (by omega), ho1, List.length_set]
            · rw [List.length_set]
            · rw [List.length_set]; exact k3
            · rw [List.size_toArray, splice_length _ _ _ (by simp; omega), Array.length_toList, k5]
            · rw [List.length_set]
              show (splice cur.toList _ _).take _ = _
              rw [take_splice _ _ _ _ (by omega) (by simp; omega), k6]
            · by_cases hjj : j' = j
              · subst hjj
                rw [List.getElem?_set] at hy'
                simp only [if_true, hj] at hy'
                cases hy'
                rw [part_splice _ _ _ _ _ (by omega) (by omega), hsp]
                exact (Kd.stands P K).cells ((Evo.unfalse m).trans ee) hc1
              · rw [List.getElem?_set_ne (Ne.symm hjj)] at hy'
                have hj' : j' < xs.length := (List.getElem?_eq_some_iff.1 hy').1
                rw [part_splice_other _ _ _ _ _ _ (by omega) (by omega) (by
                  rcases Nat.lt_or_gt_of_ne hjj with hlt | hgt
                  · left; rw [← Nat.succ_mul]; exact Nat.mul_le_mul_right _ hlt
                  · right; rw [← Nat.succ_mul]; exact Nat.mul_le_mul_right _ hgt)]
                exact (Kd.stands P K).cells ee (hcell j' y hy')
      · exact g5.elim
    · rename_i nn e ag e1 K1 xs hole vl hl
      obtain ⟨hb, g5⟩ := chk_iff.1 g4
      simp only [Bool.and_eq_true] at hb
      obtain rfl := Nat.eq_of_beq_eq_true hb.1.1
      obtain rfl := Nat.eq_of_beq_eq_true hb.1.2
      obtain ⟨p, hp, g6⟩ := optK_ok g5
      obtain ⟨hlp, hh, hQ⟩ := chk_iff.1 g6
      obtain ⟨s, hs⟩ := look_some hl
      have hcs1 : (a.eval x).cells.toList.length = 1 := by rw [hlen]; exact Nat.eq_of_beq_eq_true hb.2
      obtain ⟨W', hrun, m', hle, hsz'⟩ := m.setInner hvl hs hρ hj hp hcs hcs1 (by simpa using hlp) hh (t := t) hsz hlen'
      rw [← hy] at hrun
      exact .inr (.inl ⟨_, exec _ hrun, .any, _, _, hQ, hle, m', trivial, hsz'⟩)
    · exact g4.elim
  | iep l vl j q sz off =>
    obtain ⟨us, ad, n, cc, hu, hju, hy, hq, _⟩ := hc
    simp only at g4
    split at g4
    · rename_i nn e ag e1 K1 xs vl' hl
      obtain ⟨hb, g5⟩ := chk_iff.1 g4
      simp only [Bool.and_eq_true] at hb
      obtain rfl := Nat.eq_of_beq_eq_true hb.1.1
      obtain rfl := Nat.eq_of_beq_eq_true hb.2
      have hle := Nat.le_of_ble_eq_true hb.1.2
      split at g5
      · rename_i x' ls hd
        obtain ⟨hls, hQ⟩ := chk_iff.1 g5
        have hls : ls = [] := by simpa using hls
        subst hls
        obtain ⟨s, hs⟩ := look_some hl
        obtain ⟨v, hv, ⟨us', hu', mo⟩, hnn⟩ := m.hps l _ s hs
        rw [hu] at hu'
        obtain rfl := tuple_inj hu'
        have hlt : j < xs.length := by rw [← mo.len]; exact (List.getElem?_eq_some_iff.1 hju).1
        have hxj : xs[j]? = some (xs.getD j []) := by rw [List.getD_eq_getElem?_getD, List.getElem?_eq_getElem hlt]; rfl
        obtain ⟨fl, ⟨ho1, ho2⟩, hcell⟩ := mo.inr j _ _ hju hxj rfl
        rcases ho2 with ⟨hh, _⟩ | ⟨g, cap, cur, hvv, k1, k2, k3, k4, k5, k6⟩
        · cases hh
        · injection hvv with q1 q2 q3
          injection q1 with q1
          subst q1; subst q2; subst q3
          have hget : ∀ ys : List K1.T, q < ys.length → ys[q]? = some (ys.getD q K1.dflt) := fun ys h => by rw [List.getD_eq_getElem?_getD, List.getElem?_eq_getElem h]; rfl
          have hcj := hcell q _ (hget _ hq)
          have hcj' : (K1.sem P).cells (Xs st ρ X0) W ((xs.getD j []).getD q K1.dflt) ((fl.drop (q * K1.n)).take K1.n) := Kd.flat_cells P K1 mo.flat hcj
          obtain ⟨v1, v2, hsp, hc1, hc2⟩ := decs_ok (Z := fun _ => false) (dec1_ok m hct fuel) K1 _ x' [] [] (splice ((fl.drop (q * K1.n)).take K1.n) off (a.eval x).cells.toList) hd ((RepCs.of_cells K1 hcj').splice off hcs) (by simp)
          have : v2 = [] := hc2
          subst this
          rw [List.append_nil] at hsp
          have hul : (a.eval x).cells.toList.length = cs.length := hlen
          obtain ⟨s1, s2, s3⟩ := row_store (W := W) (e := e1) k2 ho1 k3 k4 k5 k6 hq (off := off) (us := (a.eval x).cells.toList) (by omega)
          have hjn : q * K1.n + K1.n ≤ (xs.getD j []).length * K1.n := by rw [← Nat.succ_mul]; exact Nat.mul_le_mul_right _ hq
          have hcap : (xs.getD j []).length * K1.n ≤ cc * K1.n := Nat.mul_le_mul_right _ k3
          have hrun := run_storeVar_at t i.kd.n g (q * K1.n + off) e1 cur (a.eval x) hsz hlen' k2 (by omega) hcs.one
          rw [plainAdd, Nat.zero_add] at hy
          rw [← hy] at hrun
          refine .inr (.inl ⟨_, exec _ hrun, .any, _, ρ, hQ, ρ.le_refl, ?_, trivial, by simp⟩)
          refine m.upd hs hv ((mat_own hu).2 (.inr ⟨j, _, rfl, hju, rfl⟩)) rfl _ (fun k hk => ?_) (grown_setRow W g _) (fun ee => ?_)
          · rw [mat_own hu] at hk ⊢
            exact hk
          · have hout : ∀ k, v.ownBlock = some k → k ≠ g := fun k hk hkg => mo.apart j _ g hju rfl rfl (hkg ▸ hk)
            refine ⟨⟨us, hu, mo.flat, mo.pos, by rw [List.length_set]; exact mo.len, ?_, fun j' u xr hj' hx hh => ?_, mo.dis, mo.apart⟩, hnn⟩
            · obtain ⟨hdr, hor, hhd⟩ := mo.out
              exact ⟨hdr, by rw [List.length_set]; exact ownsRow_keep hor (fun k hk => setRow_other W g k _ (hout k hk)), hhd⟩
            · by_cases hjj : j' = j
              · subst hjj
                rw [hju] at hj'; cases hj'
                rw [List.getElem?_set] at hx
                simp only [if_true, hlt] at hx
                cases hx
                refine ⟨_, by rw [List.length_set]; exact s1, fun i2 y hy2 => ?_⟩
                by_cases hii : i2 = q
                · subst hii
                  rw [List.getElem?_set] at hy2
                  have hq' : i2 < (xs.getD j' []).length := hq
                  simp only [if_true, hq'] at hy2
                  cases hy2
                  rw [s2, hsp]
                  exact Kd.flat_cells P K1 mo.flat hc1
                · rw [List.getElem?_set_ne (Ne.symm hii)] at hy2
                  rw [s3 i2 hii (List.getElem?_eq_some_iff.1 hy2).1]
                  exact Kd.flat_cells P K1 mo.flat (hcell i2 y hy2)
              · rw [List.getElem?_set_ne (Ne.symm hjj)] at hx
                refine (mo.inr j' u xr hj' hx rfl).keep mo.flat (fun k hk => setRow_other W g k _ (fun hkg => ?_))
                subst hkg
                exact mo.dis j j' _ u k (Ne.symm hjj) hju hj' rfl rfl rfl hk
      · exact g5.elim
    · exact g4.elim
  | _ => exact g4.elim

theorem optI_ok (hS : StatOK P S) (hg : S.glb = glb) (m : Mt P glb Bk X0 w0 st ρ a W) {x : Option Operand} {d : Int} {k : Int → Prop} (h : optI S st x d k) :
    ∃ n, k n ∧ ((x.map a.eval = none ∧ n = d) ∨ ∃ q, x.map a.eval = some (.int q n)) := by
  cases x with
  | none => exact ⟨d, h, .inl ⟨rfl, rfl⟩⟩
  | some y =>
    obtain ⟨q, n, hk, he⟩ := oneI_ok h (ev_ok hS hg m 0 y)
    exact ⟨n, hk, .inr ⟨q, by simp [he]⟩⟩

theorem elem_eq {t e : TypeId} (h : P.underlying t = some (.slice e)) : P.elem t = e := by simp [Program.elem, h]

theorem sem_sub (hS : StatOK P S) (hg : S.glb = glb) (m : Mt P glb Bk X0 w0 st ρ a W) {t e : TypeId} {i : TI} {x : Operand} {lo hi : Option Operand} (hop : o.op = .slice t x lo hi none) (he : S.sl t = some e) (hi' : S.ty e = some i) {c : SC}
    (h : subS S st i c lo hi Q) (hc : RepC P ρ (Xs st ρ X0) W c (a.eval x)) : OpOut P o a W (Fits P glb Bk X0 w0 st ρ a W Q) := by
  unfold subS at h
  split at h
  · rename_i l
    split at h
    · rename_i nn e' K xs hl
      obtain ⟨hn, g5⟩ := chk_iff.1 h
      have hn := Nat.eq_of_beq_eq_true hn
      obtain ⟨lw, g6, hlw⟩ := optI_ok hS hg m g5
      obtain ⟨u, ⟨h0, h1, h2, g8⟩, hu⟩ := optI_ok hS hg m g6
      obtain ⟨hρ, A0, n0, c0, hx⟩ := hc
      obtain ⟨s, hs⟩ := look_some hl
      obtain ⟨A, cap, hx', hcl, hcm, _⟩ := (m.rowVal (Z := fun _ => true) (e' := e) hs hρ rfl).1
      have ht := hS.sl t e he
      have ht' : P.underlying t = some (.slice (P.elem t)) := by rw [elem_eq ht]; exact ht
      have hsz := run_sizeOf hS hi' W
      have hsz' : (sizeOf (P.elem t)).run P W = .ok i.kd.n W := by rw [elem_eq ht]; exact hsz
      have hrun : (Instr.slice t (.slice A xs.length cap) (lo.map a.eval) (hi.map a.eval) none).run P W = .ok (sliced A lw.toNat u.toNat cap i.kd.n) W := by
        rcases hlw with ⟨hl1, hl2⟩ | ⟨q1, hl1⟩ <;> rcases hu with ⟨hu1, hu2⟩ | ⟨q2, hu1⟩ <;> rw [hl1, hu1]
        · rw [run_slice_all W t A _ cap ht', hsz']
          subst hl2; subst hu2
          simp
        · rw [run_slice_h W t A _ cap ht' q2 u (by omega) (by omega), hsz']
          subst hl2
          simp
        · rw [run_slice_l W t A _ cap ht' q1 lw (by omega) (by omega), hsz']
          subst hu2
          simp
        · rw [run_slice_lh W t A _ cap ht' q1 q2 lw u (by omega) (by omega) (by omega), hsz']
          rfl
      have exec : (execOp a.eval o).run P W = .ok (.value (sliced A lw.toNat u.toNat cap i.kd.n)) W := by
        unfold execOp; rw [hop]
        simp only [Sem.run_bind, run_sliceAt_slice W t (a.eval x) _ _ _ ht', Option.map_none]
        rw [hx', hrun]; rfl
      refine .plain m exec g8 ⟨_, rfl, A, xs.length, cap, by rw [hρ, hx'], by omega, by omega, ?_⟩
      unfold sliced
      refine ⟨_, _, rfl, by omega, by omega, fun h0 => ⟨by rw [h0, Nat.zero_mul]; cases A <;> simp [addZero], by rw [h0, Nat.sub_zero]⟩, fun hlt => ?_⟩
      obtain ⟨_, _, hxv, _, _, hr⟩ := (m.rowVal (Z := fun _ => true) (e' := e) hs hρ rfl).1
      rw [hx'] at hxv
      injection hxv with q1 q2 q3
      subst q1
      obtain ⟨ad, rfl, _⟩ := hr (by intro h; subst h; simp at h2; omega)
      exact ⟨ad, rfl, by rw [if_neg (by omega), hn]; rfl⟩
    · exact h.elim
  · exact h.elim

theorem run_sliceBound' {k : IntKind} {i : Int} {y : Nat} {c : BoundsCode} (h0 : 0 ≤ i) (h1 : i ≤ (y : Int)) : (Instr.sliceBound (.int k i) y c).run P W = .ok i.toNat W := by
  simp [Instr.sliceBound, asIntOf, h0, h1]

theorem run_sliceAt_arr {t e : TypeId} {n : Nat} (ht : P.underlying t = some (.array n e)) (hs : (sizeOf e).run P W = .ok 1 W) (b : Nat) {lo hi : Option Value} {l h : Int} (h0 : 0 ≤ l) (h1 : l ≤ h) (h2 : h ≤ (n : Int)) (hlo : (lo = none ∧ l = 0) ∨ ∃ k, lo = some (.int k l)) (hhi : (hi = none ∧ h = n) ∨ ∃ k, hi = some (.int k h)) :
    ∃ ad, (Instr.sliceAt t (.pointer (some ⟨b, 0, none⟩)) lo hi none).run P W = .ok (.slice (some ad) (h.toNat - l.toNat) (n - l.toNat)) W ∧ (l < h → ad = ⟨b, l.toNat, none⟩) := by
  have key : (Instr.sliceBounds false n n lo hi none).run P W = .ok (l.toNat, h.toNat, n) W := by
    have b1 : ∀ (k : IntKind) (c : BoundsCode), (Instr.sliceBound (.int k h) n c).run P W = .ok h.toNat W := fun k c => run_sliceBound' (by omega) h2
    have b2 : ∀ (k : IntKind) (c : BoundsCode) (m : Nat), l ≤ (m : Int) → (Instr.sliceBound (.int k l) m c).run P W = .ok l.toNat W := fun k c m hm => run_sliceBound' h0 hm
    have b3 := fun (k : IntKind) (c : BoundsCode) => b2 k c h.toNat (by omega)
    rcases hlo with ⟨rfl, rfl⟩ | ⟨k1, rfl⟩ <;> rcases hhi with ⟨rfl, rfl⟩ | ⟨k2, rfl⟩
    · simp [Instr.sliceBounds]
    · simp [Instr.sliceBounds, b1]
    · have b4 := fun (k : IntKind) (c : BoundsCode) => b2 k c n h1
      simp [Instr.sliceBounds, b4]
    · simp [Instr.sliceBounds, b1, b3]
  refine ⟨if n = l.toNat then ⟨b, 0, none⟩ else ⟨b, l.toNat, none⟩, ?_, fun hlt => by rw [if_neg (by omega)]⟩
  simp only [Instr.sliceAt, Sem.run_bind, run_underlying ht, Result.andThen_ok, Instr.sureAddr, key, hs, Sem.run_pure, Nat.mul_one]
  congr 3
  split
  · rfl
  · rw [plainAdd, Nat.zero_add]

theorem sem_arrSl (hS : StatOK P S) (hg : S.glb = glb) (m : Mt P glb Bk X0 w0 st ρ a W) {t : TypeId} {x : Operand} {lo hi mx : Option Operand} (hop : o.op = .slice t x lo hi mx) {p : Nat × TypeId} (hp : S.arr t = some p)
    (h : arrSl S st p x lo hi mx Q) : OpOut P o a W (Fits P glb Bk X0 w0 st ρ a W Q) := by
  obtain ⟨hmx, h⟩ := chk_iff.1 h
  have hmx : mx = none := by cases mx <;> simp_all
  subst hmx
  obtain ⟨i, hi', h⟩ := optK_ok h
  obtain ⟨hb, h⟩ := chk_iff.1 h
  simp only [Bool.and_eq_true] at hb
  obtain ⟨c, h, hc⟩ := oneC_ok h (ev_ok hS hg m 0 x)
  split at h
  case h_2 => exact h.elim
  rename_i l
  obtain ⟨b, hρ, hx⟩ := hc
  obtain ⟨u, h, hu⟩ := optI_ok hS hg m h
  obtain ⟨v, ⟨h0, h1, h2, hQ⟩, hv⟩ := optI_ok hS hg m h
  have hs := run_sizeOf hS hi' W
  rw [Nat.eq_of_beq_eq_true hb.1] at hs
  obtain ⟨ad, hrun, had⟩ := run_sliceAt_arr (hS.arr t p hp) hs b h0 h1 h2 hu hv
  refine .plain m (v := .slice (some ad) (v.toNat - u.toNat) (p.1 - u.toNat)) ?_ hQ ⟨_, rfl, ⟨b, ad, hρ, rfl, fun hlt => had (by omega)⟩, by omega, by omega, Nat.le_of_ble_eq_true hb.2⟩
  refine exec_v (s := Instr.sliceAt t (a.eval x) (lo.map a.eval) (hi.map a.eval) none) (by unfold execOp; rw [hop]; rfl) ?_
  rw [hx]; exact hrun

theorem sem_slice (hS : StatOK P S) (hg : S.glb = glb) (m : Mt P glb Bk X0 w0 st ρ a W) {t : TypeId} {x : Operand} {lo hi mx : Option Operand} (hop : o.op = .slice t x lo hi mx)
    (h : optK (S.sl t) fun e => optK (S.ty e) fun i => oneC (ev S st t x) fun c => cond (S.lit lab && mx.isNone) (subS S st i c lo hi Q) <| optK (slData st.look c) fun d => chk (Nat.beq d.1.n i.kd.n) <|
      optI S st lo 0 fun l => optI S st hi (d.2.1.length : Int) fun h =>
      0 ≤ l ∧ l ≤ h ∧ h ≤ (d.2.1.length : Int) ∧
      sliceS S st hi.isSome d l h Q mx) : OpOut P o a W (Fits P glb Bk X0 w0 st ρ a W Q) := by
  obtain ⟨e, he, g1⟩ := optK_ok h
  obtain ⟨i, hi', g2⟩ := optK_ok g1
  obtain ⟨c, g3, hc⟩ := oneC_ok g2 (ev_ok hS hg m t x)
  cases hlit : (S.lit lab && mx.isNone) with
  | true =>
    rw [hlit, cond_true] at g3
    simp only [Bool.and_eq_true] at hlit
    cases mx with
    | some a => simp at hlit
    | none => exact sem_sub hS hg m hop he hi' g3 hc
  | false =>
  rw [hlit, cond_false] at g3
  obtain ⟨d, hd, g4⟩ := optK_ok g3
  obtain ⟨K, xs, ls⟩ := d
  obtain ⟨hn, g5⟩ := chk_iff.1 g4
  have hn := Nat.eq_of_beq_eq_true hn
  obtain ⟨l, g6, hl⟩ := optI_ok hS hg m g5
  obtain ⟨u, ⟨h0, h1, h2, g8⟩, hu⟩ := optI_ok hS hg m g6
  clear h g1 g2 g3 g4 g5 g6
  simp only at hn h2 g8 hu
  have ht := hS.sl t e he
  have ht' : P.underlying t = some (.slice (P.elem t)) := by rw [elem_eq ht]; exact ht
  have hsz := run_sizeOf hS hi' W
  obtain ⟨A, cap, hx, hcl, hcm, hr⟩ := slData_ok m hd hc (fun l => memL l ls) (fun l hl => memL_mem hl) e

  have val : ∀ (mm : Nat), u.toNat ≤ mm → mm ≤ cap → ∀ (Xn : Nat → Prop), Evo (Xl st ρ X0 (fun l => memL l ls)) W Xn W → ((Kd.sl 0 K).sem P).val Xn W ((xs.take u.toNat).drop l.toNat) (sliced A l.toNat u.toNat mm i.kd.n) := by
    intro mm hm1 hm2 Xn ev
    have hlen : ((xs.take u.toNat).drop l.toNat).length = u.toNat - l.toNat := by simp; omega
    refine ⟨_, _, by unfold sliced; rw [hlen], by omega, by omega, fun hne => ?_⟩
    have hpos : 0 < ((xs.take u.toNat).drop l.toNat).length := List.length_pos_iff.2 hne
    obtain ⟨ad, rfl, hb1, hb2, hget⟩ := hr (by intro h; subst h; simp at hpos)
    rw [if_neg (by omega)]
    refine ⟨ad.add (l.toNat * i.kd.n), rfl, by rw [add_block]; exact ev.notIn hb1 hb2, by rw [add_block]; exact hb2, fun j y hy => ?_⟩
    rw [List.getElem?_drop, List.getElem?_take] at hy
    split at hy
    · obtain ⟨ecs, k1, k2⟩ := hget _ y hy
      refine ⟨ecs, (Kd.stands P K).cells ev k1, fun p w hw => ?_⟩
      rw [addAdd, ← hn, ← Nat.add_assoc, ← Nat.add_mul]
      exact k2 p w hw
    · cases hy
  have exec : ∀ (v : Value) mv, mx.map a.eval = mv → (Instr.slice t (.slice A xs.length cap) (lo.map a.eval) (hi.map a.eval) mv).run P W = .ok v W → (execOp a.eval o).run P W = .ok (.value v) W := by
    intro v mv hmv hv
    unfold execOp; rw [hop]
    simp only [Sem.run_bind, run_sliceAt_slice W t (a.eval x) _ _ _ ht']
    rw [hx, hmv, hv]; rfl
  have hsz' : (sizeOf (P.elem t)).run P W = .ok i.kd.n W := by rw [elem_eq ht]; exact hsz
  have blw : Below W.heap.size W W := Below.refl _ _
  cases mx with
  | none =>
    have hrun : (Instr.slice t (.slice A xs.length cap) (lo.map a.eval) (hi.map a.eval) none).run P W = .ok (sliced A l.toNat u.toNat cap i.kd.n) W := by
      rcases hl with ⟨hl1, hl2⟩ | ⟨q1, hl1⟩ <;> rcases hu with ⟨hu1, hu2⟩ | ⟨q2, hu1⟩ <;> rw [hl1, hu1]
      · rw [run_slice_all W t A _ cap ht', hsz']
        subst hl2; subst hu2
        simp
      · rw [run_slice_h W t A _ cap ht' q2 u (by omega) (by omega), hsz']
        subst hl2
        simp
      · rw [run_slice_l W t A _ cap ht' q1 l (by omega) (by omega), hsz']
        subst hu2
        simp
      · rw [run_slice_lh W t A _ cap ht' q1 q2 l u (by omega) (by omega) (by omega), hsz']
        rfl
    obtain ⟨hln, g8⟩ := chk_iff.1 g8
    refine .inl ⟨_, W, exec _ none rfl hrun, Fits.frz m ls hln blw g8 (fun Xn e1 e2 hXn => ⟨_, rfl, cells_of_val (val cap (by omega) (Nat.le_refl _) Xn e1) rfl⟩)⟩
  | some am =>
    obtain ⟨hsome, g9⟩ := chk_iff.1 g8
    simp only [Bool.and_eq_true] at hsome
    obtain ⟨hsome, hln⟩ := hsome
    obtain ⟨q3, mm, ⟨hmm, hQ⟩, hm⟩ := oneI_ok g9 (ev_ok hS hg m 0 am)
    subst hmm
    have hu' : ∃ q, hi.map a.eval = some (.int q mm) := by
      rcases hu with ⟨hu1, hu2⟩ | hu
      · cases hi with
        | none => cases hsome
        | some y => cases hu1
      · exact hu
    obtain ⟨q2, hu1⟩ := hu'
    have hrun : (Instr.slice t (.slice A xs.length cap) (lo.map a.eval) (hi.map a.eval) (some (.int q3 mm))).run P W = .ok (sliced A l.toNat mm.toNat mm.toNat i.kd.n) W := by
      rcases hl with ⟨hl1, hl2⟩ | ⟨q1, hl1⟩ <;> rw [hl1, hu1]
      · rw [run_slice_hm W t A _ cap ht' q2 q3 mm mm (by omega) (by omega) (by omega), hsz']
        subst hl2
        simp
      · rw [run_slice_lhm W t A _ cap ht' q1 q2 q3 l mm mm (by omega) (by omega) (by omega) (by omega), hsz']
        rfl
    refine .inl ⟨_, W, exec _ _ (by simp [hm]) hrun, Fits.frz m ls hln blw hQ (fun Xn e1 e2 hXn => ⟨_, rfl, ?_, cells_of_val (val mm.toNat (Nat.le_refl _) (by omega) Xn e1) rfl⟩)⟩
    have hlen : ((xs.take mm.toNat).drop l.toNat).length = mm.toNat - l.toNat := by simp; omega
    exact ⟨_, by unfold sliced; rw [hlen]⟩
end
end Go.GX
set_option linter.unusedVariables false
namespace Go.GX
variable [Inhabited BaseD]
open Go.RowKit Go.Shelf Go.Proofs

section
variable {P : Program} {glb : Nat → Option GV} {Bk X0 : Nat → Prop} {w0 : World} {st : St} {ρ : Lab} {a : Act} {W W' : World} {S : Stat} {dr : Bool} {lab : Nat} {o : Oper} {Q : Eff} {Z : Nat → Bool}

theorem slElems (m : Mt P glb Bk X0 w0 st ρ a W) {c : SC} {K : Kd} {xs : List K.T} {ls : List Nat} {v : Value} (hnm : ∀ l nn e ag e1 K1 ys vl, c = .own l → st.look l ≠ some (.mat nn e ag e1 K1 ys none vl)) (h : slData st.look c = some ⟨K, xs, ls⟩) (hv : RepC P ρ (Xs st ρ X0) W c v) :
    ∃ A cap, v = .slice A xs.length cap ∧ xs.length ≤ cap ∧ cap ≤ maxLen ∧ (xs ≠ [] → ∃ ad, A = some ad ∧ ∀ (j : Nat) x, xs[j]? = some x → ∃ ecs : List Value, (K.sem P).cells (Xs st ρ X0) W x ecs ∧ ∀ (i : Nat) u, ecs[i]? = some u → W.cell? (ad.add (j * K.n + i)) = some u) := by
  by_cases hc2 : ∃ l vl j, c = .inn l vl j
  · obtain ⟨l, vl, j, rfl⟩ := hc2
    obtain ⟨us, hu, hj, _⟩ := hv
    simp only [slData] at h
    split at h
    · rename_i nn e' ag e1 K1 xs' vl' hl
      cases hvl : Nat.beq vl vl' with
      | false => rw [hvl] at h; cases h
      | true =>
        obtain rfl := Nat.eq_of_beq_eq_true hvl
        rw [hvl] at h
        cases h
        obtain ⟨s, hs⟩ := look_some hl
        obtain ⟨v', hv', ⟨us', hu', mo⟩, _⟩ := m.hps l _ s hs
        rw [hu] at hu'
        obtain rfl := tuple_inj hu'
        have hlt : j < xs'.length := by rw [← mo.len]; exact (List.getElem?_eq_some_iff.1 hj).1
        have hxj : xs'[j]? = some (xs'.getD j []) := by rw [List.getD_eq_getElem?_getD, List.getElem?_eq_getElem hlt]; rfl
        obtain ⟨A, cap, h1, h2, h3, h4⟩ := inRow_val (X := fun _ => False) (e' := 0) mo.flat (mo.inr j v _ hj hxj rfl) (fun _ _ h => h)
        refine ⟨A, cap, h1, h2, h3, fun hne => ?_⟩
        obtain ⟨ad, hA, _, _, hget⟩ := h4 hne
        refine ⟨ad, hA, fun i x hx => ?_⟩
        obtain ⟨ecs, k1, k2⟩ := hget i x hx
        exact ⟨ecs, Kd.flat_cells P K mo.flat k1, k2⟩
    · cases h
  by_cases hc3 : ∃ l lo hi sz, c = .sub l lo hi sz
  · obtain ⟨l, lo, hi, sz, rfl⟩ := hc3
    obtain ⟨A0, n, c, hρ, q1, q2, A, q, rfl, q3, q4, q5⟩ := hv
    simp only [slData] at h
    split at h
    · rename_i nn e' K' xs' hl
      cases hsz : Nat.beq sz K'.n with
      | false => rw [hsz] at h; cases h
      | true =>
        obtain rfl := Nat.eq_of_beq_eq_true hsz
        rw [hsz] at h
        cases h
        obtain ⟨s, hs⟩ := look_some hl
        obtain ⟨A1, c1, hv1, _, _, g3⟩ := m.rowElems hs hρ
        injection hv1 with r1 r2 r3
        subst r1; subst r2; subst r3
        have hlen : ((xs'.take hi).drop lo).length = hi - lo := by simp; omega
        refine ⟨A, q, by rw [hlen], by omega, q4, fun hne => ?_⟩
        have hpos : 0 < ((xs'.take hi).drop lo).length := List.length_pos_iff.2 hne
        obtain ⟨ad, rfl, rfl⟩ := q5.2 (by omega)
        obtain ⟨g, had, k3⟩ := g3 (by intro h; subst h; simp at hpos)
        cases had
        refine ⟨_, rfl, fun j y hy => ?_⟩
        rw [List.getElem?_drop, List.getElem?_take] at hy
        split at hy
        · obtain ⟨ecs, r1, r2⟩ := k3 _ y hy
          refine ⟨ecs, r1, fun p w hw => ?_⟩
          rw [addAdd, ← Nat.add_assoc, ← Nat.add_mul, plainAdd, Nat.zero_add]
          exact r2 p w hw
        · cases hy
    · cases h
  by_cases hc : ∀ l, c ≠ .own l
  · obtain ⟨A, cap, h1, h2, h3, h4⟩ := slData_plain m hc (fun l vl j hh => hc2 ⟨l, vl, j, hh⟩) (fun l lo hi sz hh => hc3 ⟨l, lo, hi, sz, hh⟩) h hv 0
    refine ⟨A, cap, h1, h2, h3, fun hne => ?_⟩
    obtain ⟨ad, hA, _, _, hget⟩ := h4 hne
    exact ⟨ad, hA, hget⟩
  · have : ∃ l, c = .own l := by
      cases c <;> first | exact ⟨_, rfl⟩ | (exfalso; apply hc; intro l; simp)
    obtain ⟨l, rfl⟩ := this
    obtain ⟨hρ, _⟩ := hv
    simp only [slData] at h
    split at h
    · rename_i nn e' K' xs' hl
      cases h
      obtain ⟨s, hs⟩ := look_some hl
      obtain ⟨A, cap, h1, h2, h3, h4⟩ := m.rowElems hs hρ
      refine ⟨A, cap, h1, h2, h3, fun hne => ?_⟩
      obtain ⟨g, hA, hget⟩ := h4 hne
      refine ⟨_, hA, fun j x hj => ?_⟩
      obtain ⟨ecs, k1, k2⟩ := hget j x hj
      exact ⟨ecs, k1, fun i u hu => by rw [plainAdd, Nat.zero_add]; exact k2 i u hu⟩
    · rename_i nn e' K' xs' hl
      cases h
      obtain ⟨s, hs⟩ := look_some hl
      obtain ⟨v', hv', hok⟩ := m.hps l _ s hs
      rw [hρ] at hv'; injection hv' with hv'; subst hv'
      obtain ⟨⟨A, cap, h1, h2, h3, h4⟩, _⟩ := hok
      refine ⟨A, cap, h1, h2, h3, fun hne => ?_⟩
      obtain ⟨ad, hA, _, _, hget⟩ := h4 hne
      exact ⟨ad, hA, hget⟩
    · rename_i e' K' xs' hl
      cases h
      obtain ⟨s, hs⟩ := look_some hl
      obtain ⟨v', hv', hok⟩ := m.hps l _ s hs
      rw [hρ] at hv'; injection hv' with hv'; subst hv'
      obtain ⟨hf, A, cap, h1, h2, h3, h4⟩ := hok
      refine ⟨A, cap, h1, h2, h3, fun hne => ?_⟩
      obtain ⟨ad, hA, _, hget⟩ := h4 hne
      refine ⟨ad, hA, fun j x hx => ?_⟩
      obtain ⟨ecs, k1, k2⟩ := hget j x hx
      exact ⟨ecs, Kd.flat_cells P K hf k1, k2⟩
    · rename_i nn e' ag e1 K1 xs' vl hl
      exact absurd hl (hnm l nn e' ag e1 K1 xs' vl rfl)
    · cases h

theorem elems_cells_from {K : Kd} {X : Nat → Prop} {ad : Addr} : ∀ (xs : List K.T) (q : Nat), (∀ (j : Nat) x, xs[j]? = some x → ∃ ecs : List Value, (K.sem P).cells X W x ecs ∧ ∀ (i : Nat) u, ecs[i]? = some u → W.cell? (ad.add (q + j * K.n + i)) = some u) →
    ∃ news : List Value, news.length = xs.length * K.n ∧ (∀ j u, news[j]? = some u → W.cell? (ad.add (q + j)) = some u) ∧ (∀ u ∈ news, u.oneCell' = true) ∧ ∀ (j : Nat) x, xs[j]? = some x → (K.sem P).cells X W x ((news.drop (j * K.n)).take K.n)
  | [], q, h => ⟨[], by simp, fun j u hu => by simp at hu, by simp, fun j x hx => by simp at hx⟩
  | x :: xs, q, h => by
    obtain ⟨news, h1, h2, h3, h4⟩ := elems_cells_from xs (q + K.n) (fun j y hy => by
      obtain ⟨ecs, k1, k2⟩ := h (j + 1) y (by simpa using hy)
      refine ⟨ecs, k1, fun i u hu => ?_⟩
      have := k2 i u hu
      rwa [show q + (j + 1) * K.n + i = q + K.n + j * K.n + i by rw [Nat.succ_mul]; omega] at this)
    obtain ⟨ecs, k1, k2⟩ := h 0 x rfl
    have hl := Kd.cells_length P K k1
    refine ⟨ecs ++ news, by simp only [List.length_append, h1, hl, List.length_cons, Nat.add_mul]; omega, fun j u hu => ?_, fun u hu => ?_, fun j y hy => ?_⟩
    · by_cases hj : j < ecs.length
      · rw [List.getElem?_append_left hj] at hu
        have := k2 j u hu
        simpa using this
      · rw [List.getElem?_append_right (by omega)] at hu
        have := h2 _ u hu
        rwa [hl, show q + K.n + (j - K.n) = q + j by omega] at this
    · rcases List.mem_append.1 hu with hu | hu
      · exact Kd.cells_one P K k1 u hu
      · exact h3 u hu
    · cases j with
      | zero =>
        simp only [List.getElem?_cons_zero, Option.some.injEq] at hy
        subst hy
        rw [Nat.zero_mul, List.drop_zero, List.take_left' hl]
        exact k1
      | succ j =>
        have : (ecs ++ news).drop ((j + 1) * K.n) = news.drop (j * K.n) := by
          rw [Nat.succ_mul, Nat.add_comm, ← List.drop_drop, List.drop_left' hl]
        rw [this]
        exact h4 j y (by simpa using hy)

theorem elems_cells {K : Kd} {X : Nat → Prop} {xs : List K.T} {ad : Addr} (h : ∀ (j : Nat) x, xs[j]? = some x → ∃ ecs : List Value, (K.sem P).cells X W x ecs ∧ ∀ (i : Nat) u, ecs[i]? = some u → W.cell? (ad.add (j * K.n + i)) = some u) :
    ∃ news : List Value, news.length = xs.length * K.n ∧ (∀ j u, news[j]? = some u → W.cell? (ad.add j) = some u) ∧ (∀ u ∈ news, u.oneCell' = true) ∧ ∀ (j : Nat) x, xs[j]? = some x → (K.sem P).cells X W x ((news.drop (j * K.n)).take K.n) := by
  have := elems_cells_from (P := P) (W := W) (X := X) (ad := ad) xs 0 (fun j x hx => by simpa using h j x hx)
  simpa using this

theorem run_append_zero (t ty e : TypeId) (i : TypeInfo) (ht : P.underlying t = some (.slice e)) (hi : P.info? e = some i) (A : Option Addr) (n cap : Nat) (B : Option Addr) (c : Nat) (hn : n ≤ cap) :
    (Builtin.append_ #[t, t] ty #[.slice A n cap, .slice B 0 c]).run P W = .ok (.slice A n cap) W := by
  cases A <;> cases B <;> simp [Builtin.append_, run_underlying ht, sizeOf, typeInfo, hi, Builtin.lenOf, Builtin.firstCells, hn, storeCells, loadCells, loadCellsFrom]

theorem run_append_new (t ty e : TypeId) (i : TypeInfo) (z : Value) (ht : P.underlying t = some (.slice e)) (hi : P.info? e = some i) (hz : i.zero = some z) (hzs : z.cells.size = i.size)
    (A : Option Addr) (sLen sCap : Nat) (olds : List Value) (hlo : olds.length = sLen * i.size) (hA : A = none → sLen = 0 ∧ sCap = 0) (holds : ∀ ad, A = some ad → ∀ j v, olds[j]? = some v → W.cell? (ad.add j) = some v)
    (b : Addr) (n c : Nat) (news : List Value) (hl : news.length = n * i.size) (hnews : ∀ j v, news[j]? = some v → W.cell? (b.add j) = some v)
    (hg : sCap < sLen + n) (h63 : sLen + n ≤ maxLen) (hbytes : (sLen + n) * i.bytes ≤ 140737488355328) :
    ∃ cap w', (Builtin.append_ #[t, t] ty #[.slice A sLen sCap, .slice (some b) n c]).run P W = .ok (.slice (some ⟨W.heap.size, 0, none⟩) (sLen + n) cap) w' ∧
      w'.ownsRow W.heap.size e i.size (.slice (some ⟨W.heap.size, 0, none⟩) (sLen + n) cap) (sLen + n) (olds ++ news) ∧ Below W.heap.size W w' := by
  have hsmall : sLen + n ≤ 9223372036854775807 := by simp only [maxLen] at h63; omega
  have hfit := growslice_fits hg hbytes
  have hge := grownCap_ge W (sLen + n) sCap e
  have hcm : grownCap W (sLen + n) sCap e ≤ maxLen := grownCap_le_maxLen W (sLen + n) sCap e h63
  have hlen : (olds ++ news).length = (sLen + n) * i.size := by rw [List.length_append, hlo, hl, Nat.add_mul]
  have hrun : (Builtin.append_ #[t, t] ty #[.slice A sLen sCap, .slice (some b) n c]).run P W =
      .ok (.slice (some ⟨W.heap.size, 0, none⟩) (sLen + n) (grownCap W (sLen + n) sCap e))
        (W.drew.alloc (.cells (olds.toArray ++ news.toArray ++ Builtin.zeroCells z.cells (grownCap W (sLen + n) sCap e - (sLen + n))) e)) := by
    cases A with
    | none =>
      obtain ⟨rfl, rfl⟩ := hA rfl
      have : olds = [] := List.eq_nil_of_length_eq_zero (by simpa using hlo)
      subst this
      have := run_append_nil (P := P) W t ty e i z ht hi hz b n c news hl hnews (by omega) (by omega) (by have := hbytes; simp only [Nat.zero_add] at this; omega)
      simpa using this
    | some ad => exact run_append_grow (P := P) W t ty e i z ht hi hz ad sLen sCap olds hlo (holds ad rfl) b n c news hl hnews hg (by omega) hfit
  refine ⟨_, _, hrun, ⟨hlen, .inr ⟨W.heap.size, _, _, rfl, Nat.le_refl _, Go.heap_alloc_new W.drew _, hge, hcm, ?_, ?_⟩⟩, ⟨rfl, rfl, rfl, by simp, fun k hk => (World.grownBy_alloc W.drew _ none).block k hk (by simp)⟩⟩
  · simp only [Array.size_append, List.size_toArray, size_zeroCells, hzs, hlo, hl, ← Nat.add_mul]
    congr 1
    omega
  · simp only [Array.toList_append, List.append_assoc]
    rw [← List.append_assoc, ← hlen]
    exact List.take_left

theorem Mt.turn (m : Mt P glb Bk X0 w0 st ρ a W) (hlab : memL lab st.dom = false) {l : Nat} {he : HE} {s : Nat} {v : Value} (hl : st.hp l = some (he, s)) (hv : ρ l = some v) (hln : he.isLn = false) (he' : HE) (v' : Value)
    (hpl : ∀ k, ownBlk he v = some k → OwnB ρ he v k) (hgr : W.grownBy W' (ownBlk he v)) (hk : ∀ k, OwnB (ρ.put lab v') he' v' k → k < W'.heap.size ∧ (W.heap.size ≤ k ∨ ownBlk he v = some k))
    (hok : Evo (Xs st ρ X0) W (Xs (st.upds [(l, none), (lab, some he')]) (ρ.put lab v') X0) W' → HEok P 0 (ρ.put lab v') (Xs (st.upds [(l, none), (lab, some he')]) (ρ.put lab v') X0) W' he' v') :
    Mt P glb Bk X0 w0 (st.upds [(l, none), (lab, some he')]) (ρ.put lab v') a W' := by
  have hne : l ≠ lab := by
    intro h; subst h
    exact m.nolab hlab he s hl
  have hle := m.le_put hlab v'
  have hhp : (st.upds [(l, none), (lab, some he')]).hp = updf (updf st.hp l none) lab (some (he', st.cnt + 1 + 1)) := rfl
  have hother : ∀ k, ¬ (k = l ∨ k = lab) → (st.upds [(l, none), (lab, some he')]).hp k = st.hp k := fun k hk => by
    rw [hhp, updf_other _ _ (fun h => hk (.inr h)), updf_other _ _ (fun h => hk (.inl h))]
  have hgone : (st.upds [(l, none), (lab, some he')]).hp l = none := by rw [hhp, updf_other _ _ hne, updf_same]
  have hself : ∀ h s, (st.upds [(l, none), (lab, some he')]).hp lab = some (h, s) → h = he' ∧ s = st.cnt + 1 + 1 := by
    intro h s hh
    rw [hhp, updf_same] at hh
    cases hh
    exact ⟨rfl, rfl⟩
  refine m.gen (fun k => k = l ∨ k = lab) (fun k h s' hk hh => by
    rcases hk with rfl | rfl
    · rw [hl] at hh; cases hh; exact hln
    · exact absurd hh (m.nolab hlab h s')) rfl rfl hother hle ?_ ?_ hgr.os hgr.tape hgr.output hgr.size ?_ ?_ ?_ ?_
  · intro k u hu
    show memL k (lab :: l :: st.dom) = true
    rw [memL_cons, memL_cons]
    by_cases h : k = lab
    · subst h; simp
    · rw [Lab.put_other ρ v' h] at hu
      rw [m.dom k u hu]; simp
  · intro k h s' hk
    show s' ≤ st.cnt + 1 + 1
    by_cases h1 : k = l
    · subst h1; rw [hgone] at hk; cases hk
    · by_cases h2 : k = lab
      · subst h2; rw [(hself h s' hk).2]; exact Nat.le_refl _
      · rw [hother k (by rintro (h | h); exact h1 h; exact h2 h)] at hk
        have := m.stamp k h s' hk
        omega
  · intro k hk hno
    exact hgr.block k hk (fun e => hno l he s v (.inl rfl) hl hv (hpl k e.symm))
  · rintro k h s' u j hkU h1 h2 h3
    rcases hkU with rfl | rfl
    · rw [hgone] at h1; cases h1
    · obtain ⟨rfl, _⟩ := hself h s' h1
      rw [Lab.put_same] at h2; cases h2
      obtain ⟨g1, g2⟩ := hk j h3
      refine ⟨g1, ?_⟩
      rcases g2 with g2 | g2
      · exact .inl g2
      · exact .inr ⟨l, he, s, v, .inl rfl, hl, hv, hpl j g2⟩
  · rintro e k h s' hkU h1
    rcases hkU with rfl | rfl
    · rw [hgone] at h1; cases h1
    · obtain ⟨rfl, _⟩ := hself h s' h1
      exact ⟨v', Lab.put_same ρ k v', hok e⟩
  · rintro k k' h h' s s' u u' j hkU hkU' h1 h1' _ _ _ _
    rcases hkU with rfl | rfl
    · rw [hgone] at h1; cases h1
    · rcases hkU' with rfl | rfl
      · rw [hgone] at h1'; cases h1'
      · rfl

theorem ownBlk_row {nn : Bool} {e : TypeId} {K : Kd} {xs : List K.T} (v : Value) : ownBlk (.row nn e K xs) v = v.ownBlock := by
  cases v with
  | slice A n c => cases A <;> rfl
  | _ => rfl

theorem cells_app {K : Kd} {X X' : Nat → Prop} {W W' : World} (e : Evo X W X' W') {xs ys : List K.T} {flat news : List Value} (hf : flat.length = xs.length * K.n) (h1 : ∀ (j : Nat) x, xs[j]? = some x → (K.sem P).cells X W x ((flat.drop (j * K.n)).take K.n))
    (h2 : ∀ (j : Nat) x, ys[j]? = some x → (K.sem P).cells X W x ((news.drop (j * K.n)).take K.n)) : ∀ (j : Nat) x, (xs ++ ys)[j]? = some x → (K.sem P).cells X' W' x (((flat ++ news).drop (j * K.n)).take K.n) := by
  intro j x hx
  by_cases hj : j < xs.length
  · rw [List.getElem?_append_left hj] at hx
    have hjn : j * K.n + K.n ≤ flat.length := by rw [hf, ← Nat.succ_mul]; exact Nat.mul_le_mul_right _ hj
    rw [List.drop_append_of_le_length (by omega), List.take_append_of_le_length (by simp; omega)]
    exact (Kd.stands P K).cells e (h1 j x hx)
  · rw [List.getElem?_append_right (by omega)] at hx
    have hd : (flat ++ news).drop (j * K.n) = news.drop ((j - xs.length) * K.n) := by
      have hle : xs.length * K.n ≤ j * K.n := Nat.mul_le_mul_right _ (by omega)
      rw [List.drop_append, List.drop_eq_nil_of_le (by omega), List.nil_append, hf, Nat.sub_mul]
    rw [hd]
    exact (Kd.stands P K).cells e (h2 _ x hx)

theorem append_core (base : Nat) (t ty e : TypeId) (i : TypeInfo) (z : Value) (ht : P.underlying t = some (.slice e)) (hi : P.info? e = some i) (hz : i.zero = some z) (hzs : z.cells.size = i.size) (hsz : 0 < i.size) (hbase : base ≤ W.heap.size)
    (v0 : Value) (N : Nat) (flat : List Value) (hown : W.ownsRow base e i.size v0 N flat) (B : Option Addr) (m c : Nat) (news : List Value) (hl : news.length = m * i.size) (hB : m ≠ 0 → ∃ b, B = some b ∧ ∀ j v, news[j]? = some v → W.cell? (b.add j) = some v) (h1 : ∀ u ∈ news, u.oneCell' = true)
    (h63 : N + m ≤ maxLen) (hbytes : (N + m) * i.bytes ≤ 140737488355328) :
    ∃ v' w', (Builtin.append_ #[t, t] ty #[v0, .slice B m c]).run P W = .ok v' w' ∧ w'.ownsRow base e i.size v' (N + m) (flat ++ news) ∧ W.grownBy w' v0.ownBlock ∧
      (∀ k, v'.ownBlock = some k → k < w'.heap.size ∧ (W.heap.size ≤ k ∨ v0.ownBlock = some k)) ∧ (m ≠ 0 ∨ (∃ a n c, v0 = .slice (some a) n c) → ∃ a n c, v' = .slice (some a) n c) := by
  by_cases hm : m = 0
  · subst hm
    have : news = [] := List.eq_nil_of_length_eq_zero (by simpa using hl)
    subst this
    have hrun : (Builtin.append_ #[t, t] ty #[v0, .slice B 0 c]).run P W = .ok v0 W := by
      rcases hown.2 with ⟨rfl, rfl⟩ | ⟨g, cap, cur, rfl, _, _, hnc, _⟩
      · exact run_append_zero t ty e i ht hi none 0 0 B c (Nat.le_refl _)
      · exact run_append_zero t ty e i ht hi _ N cap B c hnc
    refine ⟨v0, W, hrun, by simpa using hown, ⟨rfl, rfl, rfl, Nat.le_refl _, fun _ _ _ => rfl⟩, fun k hk => ⟨(hown.lt k hk).2, .inr hk⟩, fun h => ?_⟩
    rcases h with h | h
    · exact absurd rfl h
    · exact h
  · obtain ⟨b, rfl, hnews⟩ := hB hm
    rcases hown.2 with ⟨rfl, rfl⟩ | ⟨g, cap, cur, rfl, hbg, hg, hnc, hcm, hcs, htake⟩
    · have hfl : flat = [] := List.eq_nil_of_length_eq_zero (by simpa using hown.1)
      subst hfl
      obtain ⟨cp, w', hr, ho, hb⟩ := run_append_new (W := W) t ty e i z ht hi hz hzs none 0 0 [] (by simp) (fun _ => ⟨rfl, rfl⟩) (fun ad h => by cases h) b m c news hl hnews (by omega) h63 hbytes
      refine ⟨_, w', hr, ⟨ho.1, ?_⟩, ⟨hb.os, hb.tape, hb.output, hb.size, fun k hk _ => hb.block k hk⟩, fun k hk => ?_, fun _ => ⟨_, _, _, rfl⟩⟩
      · rcases ho.2 with ⟨h, _⟩ | ⟨g, cap, cur, q1, q2, q3⟩
        · cases h
        · exact .inr ⟨g, cap, cur, q1, by omega, q3⟩
      · have := ho.lt k hk
        exact ⟨this.2, .inl this.1⟩
    · by_cases hroom : N + m ≤ cap
      · obtain ⟨w', hr, ho, hgr⟩ := run_append_fits (P := P) W base t ty e i i.size ht hi rfl g N cap flat hown b m c news hl hnews h1 hroom
        refine ⟨_, w', hr, ho, hgr, fun k hk => ⟨(ho.lt k hk).2, .inr hk⟩, fun _ => ⟨_, _, _, rfl⟩⟩
      · obtain ⟨cp, w', hr, ho, hb⟩ := run_append_new (W := W) t ty e i z ht hi hz hzs (some ⟨g, 0, none⟩) N cap flat hown.1 (fun h => by cases h) (fun ad h => by cases h; exact hown.cells rfl) b m c news hl hnews (by omega) h63 hbytes
        refine ⟨_, w', hr, ⟨ho.1, ?_⟩, ⟨hb.os, hb.tape, hb.output, hb.size, fun k hk _ => hb.block k hk⟩, fun k hk => ?_, fun _ => ⟨_, _, _, rfl⟩⟩
        · rcases ho.2 with ⟨h, _⟩ | ⟨g, cap, cur, q1, q2, q3⟩
          · cases h
          · exact .inr ⟨g, cap, cur, q1, by omega, q3⟩
        · have := ho.lt k hk
          exact ⟨this.2, .inl this.1⟩

theorem litB_neB {c : SC} {K : Kd} {xs : List K.T} {ls : List Nat} (h : slDataB st.look c = some ⟨K, xs, ls⟩) (hl : litB c = true) : xs.length ≠ 0 := by
  cases c with
  | fr e K' ys =>
    cases ys with
    | nil => cases hl
    | cons y ys => cases h; simp
  | _ => cases hl
theorem slElemsB (m : Mt P glb Bk X0 w0 st ρ a W) {c : SC} {K : Kd} {xs : List K.T} {ls : List Nat} {v : Value} (hnm : ∀ l nn e ag e1 K1 ys vl, c = .own l → st.look l ≠ some (.mat nn e ag e1 K1 ys none vl)) (h : slDataB st.look c = some ⟨K, xs, ls⟩) (hv : RepC P ρ (Xs st ρ X0) W c v) :
    ∃ A cap, v = .slice A xs.length cap ∧ xs.length ≤ cap ∧ cap ≤ maxLen ∧ (xs ≠ [] → ∃ ad, A = some ad ∧ ∀ (j : Nat) x, xs[j]? = some x → ∃ ecs : List Value, (K.sem P).cells (Xs st ρ X0) W x ecs ∧ ∀ (i : Nat) u, ecs[i]? = some u → W.cell? (ad.add (j * K.n + i)) = some u) := by
  cases c with
  | bsl l lo hi n =>
    obtain ⟨⟨b, ad, hρ, rfl, had⟩, hlh, hhn, hn1⟩ := hv
    simp only [slDataB] at h
    split at h
    · rename_i own ty k x r hl
      cases hb : Nat.ble n (r.length + 1) with
      | false => rw [hb] at h; cases h
      | true =>
        rw [hb] at h
        have hb := Nat.le_of_ble_eq_true hb
        obtain ⟨ys, hys, hh⟩ := Option.map_eq_some_iff.1 (show Option.map _ _ = _ from h)
        cases hh
        obtain ⟨s, hs⟩ := look_some hl
        obtain ⟨v', hv', hok⟩ := m.hps l _ s hs
        rw [hρ] at hv'; injection hv' with hv'; subst hv'
        obtain ⟨b', arr, he, hbk, hcs, hno, hlo⟩ := hok
        injection he with he; injection he with he; injection he with he
        subst he
        have hlen := hcs.length
        obtain ⟨e1, e2⟩ := allI_ok hys (hcs.take n)
        have hxl : ys.length = n := by
          have := congrArg List.length e1
          simp only [List.length_take, List.length_map] at this
          simp only [List.length_cons] at hlen
          omega
        have hl2 : ((ys.take hi).drop lo).length = hi - lo := by simp; omega
        have hval0 : ∃ A c, Value.slice (some ad) (hi - lo) (n - lo) = .slice A ((ys.take hi).drop lo).length c ∧ ((ys.take hi).drop lo).length ≤ c ∧ c ≤ maxLen ∧ ((ys.take hi).drop lo ≠ [] → ∃ ad, A = some ad ∧ ¬ (fun _ : Nat => False) ad.block ∧ ad.block < W.heap.size ∧ ∀ (j : Nat) (x : Int), ((ys.take hi).drop lo)[j]? = some x → W.cell? (ad.add j) = some (.int k x)) := by
          refine ⟨some ad, n - lo, by rw [hl2], by rw [hl2]; omega, by unfold maxLen; omega, fun hne => ?_⟩
          have hpos : 0 < ((ys.take hi).drop lo).length := List.length_pos_iff.2 hne
          obtain rfl := had (by omega)
          refine ⟨_, rfl, fun h => h, (Array.getElem?_eq_some_iff.1 hbk).1, fun j x hx => ?_⟩
          rw [List.getElem?_drop, List.getElem?_take] at hx
          split at hx
          · rw [plainAdd, cell_of_row W b _ arr ty (0, 0) hbk]
            have h3 : (arr.toList.take n)[lo + j]? = some (.int k x) := by rw [e1, List.getElem?_map, hx]; rfl
            rw [List.getElem?_take] at h3
            split at h3
            · simpa using h3
            · cases h3
          · cases hx
        obtain ⟨A, cap, h1, h2, h3, h4⟩ := slInt (P := P) (X := fun _ => False) (W := W) (e := 0) (k := k) (ys := (ys.take hi).drop lo) hval0
        refine ⟨A, cap, h1, h2, h3, fun hne => ?_⟩
        obtain ⟨ad', hA, _, _, hget⟩ := h4 hne
        refine ⟨ad', hA, fun j x hj => ?_⟩
        obtain ⟨ecs, k1, k2⟩ := hget j x hj
        exact ⟨ecs, Kd.flat_cells P (.int k) rfl k1, k2⟩
    · cases h
  | _ => exact slElems m hnm h hv
theorem isMat_ok {look : Nat → Option HE} {b : SC} {k : (m : Nat) → (nn : Bool) → (ag : Bool) → (e1 : TypeId) → (K1 : Kd) → List (List K1.T) → Prop} {p : Prop} (h : isMat look b k p) :
    (∃ m nn e ag e1 K1 ys vl, b = .own m ∧ look m = some (.mat nn e ag e1 K1 ys none vl) ∧ k m nn ag e1 K1 ys) ∨ (p ∧ ∀ l nn e ag e1 K1 ys vl, b = .own l → look l ≠ some (.mat nn e ag e1 K1 ys none vl)) := by
  unfold isMat at h
  split at h
  · rename_i m
    split at h
    · rename_i nn e ag e1 K1 ys vl hl
      exact .inl ⟨m, nn, e, ag, e1, K1, ys, vl, rfl, hl, h⟩
    · rename_i hno
      refine .inr ⟨h, fun l nn e ag e1 K1 ys vl hb hl => ?_⟩
      cases hb
      exact hno nn e ag e1 K1 ys vl hl
  · rename_i hno
    exact .inr ⟨h, fun l nn e ag e1 K1 ys vl hb hl => hno l hb⟩

theorem Mt.matAt (m : Mt P glb Bk X0 w0 st ρ a W) {l : Nat} {nn : Bool} {e : TypeId} {ag : Bool} {e1 : TypeId} {K1 : Kd} {xs : List (List K1.T)} {vl : Nat} {v : Value} (hl : st.look l = some (.mat nn e ag e1 K1 xs none vl)) (hρ : ρ l = some v) :
    ∃ us s, st.hp l = some (.mat nn e ag e1 K1 xs none vl, s) ∧ ρ vl = some (.tuple us.toArray) ∧ MatOK P W e e1 K1 xs none us v ∧ W.ownsRow 0 e 1 v xs.length us ∧ (nn = true → ∃ a n c, v = .slice (some a) n c) ∧ ∀ (j : Nat) u, us[j]? = some u → u.oneCell' = true := by
  obtain ⟨s, hs⟩ := look_some hl
  obtain ⟨v', hv', ⟨us, hu, mo⟩, hnn⟩ := m.hps l _ s hs
  rw [hρ] at hv'; injection hv' with hv'; subst hv'
  obtain ⟨hd, ho, hh⟩ := mo.out
  have : hd = us := by
    apply List.ext_getElem?
    intro j
    by_cases hj : j < us.length
    · rw [List.getElem?_eq_getElem hj, hh j _ (List.getElem?_eq_getElem hj) rfl]
    · have hl1 := ho.1
      have hl2 := mo.len
      rw [List.getElem?_eq_none (show us.length ≤ j by omega), List.getElem?_eq_none (show hd.length ≤ j by omega)]
  subst this
  refine ⟨hd, s, hs, hu, mo, ho, hnn, fun j u hj => ?_⟩
  have hlt : j < xs.length := by rw [← mo.len]; exact (List.getElem?_eq_some_iff.1 hj).1
  obtain ⟨fl, ⟨_, ho2⟩, _⟩ := mo.inr j u _ hj (List.getElem?_eq_getElem hlt) rfl
  rcases ho2 with ⟨h, _⟩ | ⟨g, cap, cur, h, _⟩ <;> rw [h] <;> rfl

theorem map_castL {K : Kd} (xs : List (List K.T)) : xs.map (castL rfl) = xs := by
  induction xs with
  | nil => rfl
  | cons x r ih => rw [List.map_cons, ih]; rfl

theorem sem_appM (hS : StatOK P S) (m : Mt P glb Bk X0 w0 st ρ a W) (hlab : memL lab st.dom = false) (hvl : memL (vlab lab) st.dom = false) {t e : TypeId} {i : TI} {c : SC} {x y : Operand} (ht : P.underlying t = some (.slice e)) (hi : S.ty e = some i) (hb1 : 1 ≤ i.bytes) (hb2 : i.kd.n = 1)
    (hc : RepC P ρ (Xs st ρ X0) W c (a.eval x)) {mm : Nat} {nn' ag : Bool} {e2 e1 : TypeId} {K1 : Kd} {ys : List (List K1.T)} {vl' : Nat} (hd : RepC P ρ (Xs st ρ X0) W (.own mm) (a.eval y)) (hm : st.look mm = some (.mat nn' e2 ag e1 K1 ys none vl'))
    (exec : ∀ v W', (Builtin.append_ #[t, t] o.type #[a.eval x, a.eval y]).run P W = .ok v W' → (execOp a.eval o).run P W = .ok (.value v) W')
    (h : appM st.look lab e i c mm nn' ag e1 K1 ys Q) : OpOut P o a W (Fits P glb Bk X0 w0 st ρ a W Q) := by
  obtain ⟨harg, ⟨inf, z, q1, q2, q3, q4, q5⟩, hagg⟩ := hS.ty e i hi
  have hzs : z.cells.size = inf.size := by rw [← Array.length_toList, q5, zv_length, q2]
  obtain ⟨hρm, _⟩ := hd
  obtain ⟨uy, sm, hsm, huy, moy, hoy, _, h1y⟩ := m.matAt hm hρm
  have small : ∀ n : Nat, n * i.bytes ≤ 140737488355328 → n ≤ maxLen := by
    intro n hn
    have := Nat.le_trans (Nat.le_mul_of_pos_right n hb1) hn
    simp only [maxLen]; omega
  have hB : ∃ B cB, a.eval y = .slice B ys.length cB ∧ (ys.length ≠ 0 → ∃ b, B = some b ∧ ∀ j v, uy[j]? = some v → W.cell? (b.add j) = some v) := by
    have ho' := hoy
    obtain ⟨_, ho2⟩ := hoy
    rcases ho2 with ⟨h, h0⟩ | ⟨g, cap, cur, h, _⟩
    · exact ⟨none, 0, by rw [h, h0], fun h => absurd h0 h⟩
    · rw [h] at ho'
      exact ⟨_, _, h, fun _ => ⟨_, rfl, ho'.cells rfl⟩⟩
  obtain ⟨B, cB, hy, hBy⟩ := hB
  have core := fun v0 N flat (hown : W.ownsRow 0 e inf.size v0 N flat) (hby : (N + ys.length) * i.bytes ≤ 140737488355328) =>
    append_core 0 t o.type e inf z ht q1 q4 hzs (by omega) (Nat.zero_le _) v0 N flat hown B ys.length cB uy (by rw [q2, hb2, hoy.1]) hBy (fun u hu => by
      obtain ⟨j, hj⟩ := List.getElem?_of_mem hu
      exact h1y j u hj) (small _ hby) (by rw [q3]; exact hby)
  have ownY : ∀ (j : Nat) u k, uy[j]? = some u → u.ownBlock = some k → OwnB ρ (.mat nn' e2 ag e1 K1 ys none vl') (a.eval y) k := fun j u k hj hk => (mat_own huy).2 (.inr ⟨j, u, rfl, hj, hk⟩)
  have ltY : ∀ {k}, OwnB ρ (.mat nn' e2 ag e1 K1 ys none vl') (a.eval y) k → k < W.heap.size := by
    intro k hk
    obtain ⟨v', hv', hok⟩ := m.hps mm _ sm hsm
    rw [hρm] at hv'; cases hv'
    exact (hok.lt hk).2
  cases c with
  | nl e0 K0 =>
    obtain ⟨hby, hne, hQ⟩ := h
    have hx : a.eval x = .slice none 0 0 := hc
    obtain ⟨v', w', hr, ho, hgr, hk, hn⟩ := core (.slice none 0 0) 0 [] (World.ownsRow_nil W _ e inf.size) (by simpa using hby)
    rw [← hx, ← hy] at hr
    have hnew : ∀ k, v'.ownBlock = some k → W.heap.size ≤ k := by
      intro k hk'
      rcases (hk k hk').2 with h | h
      · exact h
      · cases h
    have keep : ∀ k, k < W.heap.size → w'.heap[k]? = W.heap[k]? := fun k hk' => hgr.block k hk' (by simp [Value.ownBlock])
    have hmat : MatOK P w' e e1 K1 ys none uy v' := by
      refine ⟨moy.flat, moy.pos, moy.len, ⟨uy, by rw [q2, hb2] at ho; simpa using ho, fun j u hj _ => hj⟩, fun j u xr hj hx hh => (moy.inr j u xr hj hx hh).keep moy.flat (fun k hk' => keep k (ltY (ownY j u k hj hk'))), moy.dis, fun j u k hj _ hk' hv => ?_⟩
      have := ltY (ownY j u k hj hk')
      have := hnew k hv
      omega
    obtain ⟨m', hle⟩ := m.toMat hlab hvl [mm] (fun l hl he s hh => by
      rcases List.mem_singleton.1 hl with rfl
      rw [hsm] at hh; cases hh; rfl) true e ag e1 K1 ys uy v' hgr.os hgr.tape hgr.output hgr.size (fun k hk' _ => keep k hk') (fun k hk' => by
      rcases hk' with h | ⟨j, u, hj, h⟩
      · exact .inl (hnew k h)
      · exact .inr ⟨mm, _, sm, _, List.mem_singleton.2 rfl, hsm, hρm, ownY j u k hj h⟩) hmat (fun _ => hn (.inl hne))
    refine .inl ⟨v', w', exec _ _ hr, .mk false [.own lab], _, _, hQ, hle, m', ⟨_, rfl, Lab.put_same _ _ _, ?_⟩, hgr.size⟩
    obtain ⟨a1, n1, c1, h1⟩ := hn (.inl hne)
    exact ⟨_, _, _, h1⟩
  | own l =>
    simp only [appM] at h
    split at h
    case h_2 => exact h.elim
    rename_i nn e' ag' e1' K1' xs vl hl
    obtain ⟨hcond, h9⟩ := chk_iff.1 h
    simp only [Bool.and_eq_true, Bool.not_eq_true', beq_iff_eq] at hcond
    obtain ⟨⟨⟨he1, he2⟩, he3⟩, he4⟩ := hcond
    obtain rfl := Nat.eq_of_beq_eq_true he1
    obtain rfl := Nat.eq_of_beq_eq_true he4
    subst he3
    have hlm : l ≠ mm := by intro hh; subst hh; simp at he2
    split at h9
    case isFalse => exact h9.elim
    rename_i hK
    subst hK
    obtain ⟨hby, hne, hQ⟩ := h9
    rw [map_castL] at hQ
    obtain ⟨hρ, _⟩ := hc
    obtain ⟨ux, sl, hsl, hux, mox, hox, hnx, _⟩ := m.matAt hl hρ
    obtain ⟨v', w', hr, ho, hgr, hk, hn⟩ := core (a.eval x) xs.length ux (by rw [q2, hb2]; exact hox) hby
    rw [← hy] at hr
    have ownX : ∀ (j : Nat) u k, ux[j]? = some u → u.ownBlock = some k → OwnB ρ (.mat nn e' ag e1 K1' xs none vl) (a.eval x) k := fun j u k hj hk => (mat_own hux).2 (.inr ⟨j, u, rfl, hj, hk⟩)
    have ltX : ∀ {k}, OwnB ρ (.mat nn e' ag e1 K1' xs none vl) (a.eval x) k → k < W.heap.size := by
      intro k hk
      obtain ⟨v', hv', hok⟩ := m.hps l _ sl hsl
      rw [hρ] at hv'; cases hv'
      exact (hok.lt hk).2
    have cross : ∀ k, OwnB ρ (.mat nn e' ag e1 K1' xs none vl) (a.eval x) k → OwnB ρ (.mat nn' e2 ag e1 K1' ys none vl') (a.eval y) k → False := fun k h1 h2 => hlm (m.dis l mm _ _ sl sm _ _ k hsl hsm hρ hρm h1 h2)
    have headX : ∀ k, (a.eval x).ownBlock = some k → OwnB ρ (.mat nn e' ag e1 K1' xs none vl) (a.eval x) k := fun k hk => (mat_own hux).2 (.inl hk)
    have keep : ∀ k, k < W.heap.size → (a.eval x).ownBlock ≠ some k → w'.heap[k]? = W.heap[k]? := fun k hk' hne => hgr.block k hk' (fun h => hne h.symm)
    have vNew : ∀ k, v'.ownBlock = some k → W.heap.size ≤ k ∨ (a.eval x).ownBlock = some k := fun k hk' => (hk k hk').2
    have getA : ∀ (j : Nat) u, (ux ++ uy)[j]? = some u → (j < ux.length ∧ ux[j]? = some u) ∨ (ux.length ≤ j ∧ uy[j - ux.length]? = some u) := by
      intro j u hj
      by_cases h : j < ux.length
      · rw [List.getElem?_append_left h] at hj; exact .inl ⟨h, hj⟩
      · rw [List.getElem?_append_right (by omega)] at hj; exact .inr ⟨by omega, hj⟩
    have hmat : MatOK P w' e' e1 K1' (xs ++ ys) none (ux ++ uy) v' := by
      refine ⟨mox.flat, mox.pos, by simp [mox.len, moy.len], ⟨ux ++ uy, by rw [q2, hb2] at ho; rw [List.length_append]; exact ho, fun j u hj _ => hj⟩, fun j u xr hj hx _ => ?_, fun j j' u u' k hne hj hj' _ _ hk' => ?_, fun j u k hj _ hk' hv => ?_⟩
      · rcases getA j u hj with ⟨h1, h2⟩ | ⟨h1, h2⟩
        · rw [List.getElem?_append_left (by rw [← mox.len]; exact h1)] at hx
          exact (mox.inr j u xr h2 hx rfl).keep mox.flat (fun k hk' => keep k (ltX (ownX j u k h2 hk')) (fun hh => mox.apart j u k h2 rfl hk' hh))
        · rw [List.getElem?_append_right (by rw [← mox.len]; exact h1)] at hx
          rw [← mox.len] at hx
          exact (moy.inr _ u xr h2 hx rfl).keep moy.flat (fun k hk' => keep k (ltY (ownY _ u k h2 hk')) (fun hh => cross k (headX k hh) (ownY _ u k h2 hk')))
      · rcases getA j u hj with ⟨h1, h2⟩ | ⟨h1, h2⟩ <;> rcases getA j' u' hj' with ⟨h3, h4⟩ | ⟨h3, h4⟩
        · exact mox.dis j j' u u' k hne h2 h4 rfl rfl hk'
        · exact fun hk2 => cross k (ownX _ u k h2 hk') (ownY _ u' k h4 hk2)
        · exact fun hk2 => cross k (ownX _ u' k h4 hk2) (ownY _ u k h2 hk')
        · exact moy.dis _ _ u u' k (by omega) h2 h4 rfl rfl hk'
      · rcases getA j u hj with ⟨h1, h2⟩ | ⟨h1, h2⟩
        · rcases vNew k hv with h | h
          · have := ltX (ownX j u k h2 hk'); omega
          · exact mox.apart j u k h2 rfl hk' h
        · rcases vNew k hv with h | h
          · have := ltY (ownY _ u k h2 hk'); omega
          · exact cross k (headX k h) (ownY _ u k h2 hk')
    obtain ⟨m', hle⟩ := m.toMat hlab hvl [l, mm] (fun l' hl' he s hh => by
      simp only [List.mem_cons, List.not_mem_nil, or_false] at hl'
      rcases hl' with rfl | rfl
      · rw [hsl] at hh; cases hh; rfl
      · rw [hsm] at hh; cases hh; rfl) true e' ag e1 K1' (xs ++ ys) (ux ++ uy) v' hgr.os hgr.tape hgr.output hgr.size (fun k hk' hno => keep k hk' (fun hh => hno l _ sl _ (by simp) hsl hρ (headX k hh))) (fun k hk' => by
      rcases hk' with h | ⟨j, u, hj, h⟩
      · rcases vNew k h with h | h
        · exact .inl h
        · exact .inr ⟨l, _, sl, _, by simp, hsl, hρ, headX k h⟩
      · rcases getA j u hj with ⟨h1, h2⟩ | ⟨h1, h2⟩
        · exact .inr ⟨l, _, sl, _, by simp, hsl, hρ, ownX j u k h2 h⟩
        · exact .inr ⟨mm, _, sm, _, by simp, hsm, hρm, ownY _ u k h2 h⟩) hmat (fun _ => hn (.inl hne))
    refine .inl ⟨v', w', exec _ _ hr, .mk false [.own lab], _, _, hQ, hle, m', ⟨_, rfl, Lab.put_same _ _ _, ?_⟩, hgr.size⟩
    obtain ⟨a1, n1, c1, h1⟩ := hn (.inl hne)
    exact ⟨_, _, _, h1⟩
  | _ => exact h.elim

theorem sem_append (hS : StatOK P S) (hg : S.glb = glb) (m : Mt P glb Bk X0 w0 st ρ a W) (hlab : memL lab st.dom = false) (hvl : memL (vlab lab) st.dom = false) {cl : Call} {x y : Operand} {t t' : TypeId} (hop : o.op = .call cl) (hc1 : cl.callee = .builtin .append) (hc2 : cl.args.toList = [x, y]) (hc3 : cl.argTypes.toList = [t, t'])
    (h : chk (Nat.beq t t') (optK (S.sl t) fun e => optK (S.ty e) fun i => oneC (ev S st t x) fun a => oneC (ev S st t y) fun b => isMat st.look b (fun m nn ag e1 K1 ys => chk (Nat.ble 1 i.bytes && Nat.beq i.kd.n 1) (appM st.look lab e i a m nn ag e1 K1 ys Q)) <| optK (slDataB st.look b) fun d =>
            chk (Nat.ble 1 i.bytes && Nat.ble 1 i.kd.n) (if h : d.1 = i.kd then appS st.look lab e i a (castL h d.2.1) (litB b) d.2.2 Q else False))) : OpOut P o a W (Fits P glb Bk X0 w0 st ρ a W Q) := by
  obtain ⟨htt, g1⟩ := chk_iff.1 h
  have htt := Nat.eq_of_beq_eq_true htt
  subst htt
  obtain ⟨e, he, g2⟩ := optK_ok g1
  obtain ⟨i, hi, g3⟩ := optK_ok g2
  obtain ⟨c, g4, hc⟩ := oneC_ok g3 (ev_ok hS hg m t x)
  obtain ⟨d, g5, hd⟩ := oneC_ok g4 (ev_ok hS hg m t y)
  have exec : ∀ v W', (Builtin.append_ #[t, t] o.type #[a.eval x, a.eval y]).run P W = .ok v W' → (execOp a.eval o).run P W = .ok (.value v) W' := by
    intro v W' hr
    have ha : cl.args = #[x, y] := Array.ext' hc2
    have hat : cl.argTypes = #[t, t] := Array.ext' hc3
    unfold execOp; rw [hop]
    simp [resolve, hc1, invoke, builtin, ha, hat, hr]
  rcases isMat_ok g5 with ⟨mm, nn', e2, ag, e1, K1, ys, vl', rfl, hlk, g6⟩ | ⟨g5, hnm⟩
  · obtain ⟨hb, g7⟩ := chk_iff.1 g6
    simp only [Bool.and_eq_true] at hb
    exact sem_appM hS m hlab hvl (hS.sl t e he) hi (Nat.le_of_ble_eq_true hb.1) (Nat.eq_of_beq_eq_true hb.2) hc hd hlk exec g7
  obtain ⟨D, hD, g6⟩ := optK_ok g5
  obtain ⟨K, ys, ls⟩ := D
  obtain ⟨hb, g7⟩ := chk_iff.1 g6
  simp only [Bool.and_eq_true] at hb
  have hb1 := Nat.le_of_ble_eq_true hb.1
  have hb2 := Nat.le_of_ble_eq_true hb.2
  clear h g1 g2 g3 g4 g5 g6
  split at g7
  case isFalse => exact g7.elim
  rename_i hK
  simp only at hK
  subst hK
  have g8 : appS st.look lab e i c ys (litB d) ls Q := g7
  clear g7
  obtain ⟨harg, ⟨inf, z, q1, q2, q3, q4, q5⟩, hagg⟩ := hS.ty e i hi
  have ht := hS.sl t e he
  have hzs : z.cells.size = inf.size := by rw [← Array.length_toList, q5, zv_length, q2]
  obtain ⟨B, cB, hy, _, _, hys⟩ := slElemsB m hnm hD hd
  have hne : litB d = true → ys.length ≠ 0 := litB_neB hD
  have hnews : ∃ news : List Value, news.length = ys.length * i.kd.n ∧ (ys.length ≠ 0 → ∃ b, B = some b ∧ ∀ j v, news[j]? = some v → W.cell? (b.add j) = some v) ∧ (∀ u ∈ news, u.oneCell' = true) ∧ ∀ (j : Nat) x, ys[j]? = some x → (i.kd.sem P).cells (Xs st ρ X0) W x ((news.drop (j * i.kd.n)).take i.kd.n) := by
    by_cases h0 : ys = []
    · subst h0
      exact ⟨[], by simp, by simp, by simp, fun j x hx => by simp at hx⟩
    · obtain ⟨ad, hB, hget⟩ := hys h0
      obtain ⟨news, k1, k2, k3, k4⟩ := elems_cells hget
      exact ⟨news, k1, fun _ => ⟨ad, hB, k2⟩, k3, k4⟩
  obtain ⟨news, k1, k2, k3, k4⟩ := hnews
  have small : ∀ n : Nat, n * i.bytes ≤ 140737488355328 → n ≤ maxLen := by
    intro n hn
    have := Nat.le_trans (Nat.le_mul_of_pos_right n hb1) hn
    simp only [maxLen]; omega
  have core := fun v0 N flat (hown : W.ownsRow 0 e inf.size v0 N flat) (hby : (N + ys.length) * i.bytes ≤ 140737488355328) =>
    append_core 0 t o.type e inf z ht q1 q4 hzs (by omega) (Nat.zero_le _) v0 N flat hown B ys.length cB news (by rw [q2]; exact k1) k2 k3 (small _ hby) (by rw [q3]; exact hby)
  cases c with
  | nl e0 K0 =>
    obtain ⟨hby, hQ⟩ := g8
    have hx : a.eval x = .slice none 0 0 := hc
    obtain ⟨v', w', hr, ho, hgr, hk, hn⟩ := core (.slice none 0 0) 0 [] (World.ownsRow_nil W _ e inf.size) (by simpa using hby)
    rw [← hx, ← hy] at hr
    refine .inl ⟨v', w', exec _ _ hr, Fits.new m hlab _ v' ⟨hgr.os, hgr.tape, hgr.output, hgr.size, fun k hk => hgr.block k hk (by simp [Value.ownBlock])⟩ (fun k hkk => ?_) (fun ev _ => ?_) hQ (fun X hρ => ?_)⟩
    · rw [ownB_row, ownBlk_row] at hkk
      obtain ⟨p1, p2⟩ := hk k hkk
      rcases p2 with p2 | p2
      · exact ⟨p2, p1⟩
      · cases p2
    · refine ⟨hb2, ⟨news, ?_, fun j x hx => (Kd.stands P i.kd).cells ev (k4 j x hx)⟩, fun hnn => hn (.inl (hne hnn))⟩
      rw [q2] at ho
      simpa using ho
    · refine ⟨_, rfl, hρ, ?_⟩
      rcases ho.2 with ⟨h, _⟩ | ⟨g, cap, cur, h, _⟩ <;> exact ⟨_, _, _, h⟩
  | own l =>
    simp only [appS] at g8
    split at g8
    case h_2 => exact g8.elim
    rename_i nn e' K' xs hl
    obtain ⟨hcond, g9⟩ := chk_iff.1 g8
    simp only [Bool.and_eq_true, Bool.not_eq_true'] at hcond
    have hee := Nat.eq_of_beq_eq_true hcond.1
    subst hee
    split at g9
    case isFalse => exact g9.elim
    rename_i hK
    subst hK
    obtain ⟨hby, hQ⟩ := g9
    obtain ⟨hρ, _⟩ := hc
    obtain ⟨s, hs⟩ := look_some hl
    obtain ⟨v', hv', hok⟩ := m.hps l _ s hs
    rw [hρ] at hv'; injection hv' with hv'; subst hv'
    obtain ⟨h0, ⟨flat, hown, hcell⟩, hnn⟩ := hok
    obtain ⟨v', w', hr, ho, hgr, hk, hn⟩ := core (a.eval x) xs.length flat (by rw [q2]; exact hown) hby
    rw [← hy] at hr
    refine .inl ⟨v', w', exec _ _ hr, _, _, ρ.put lab v', hQ, m.le_put hlab v', ?_, ?_, hgr.size⟩
    · refine m.turn hlab hs hρ rfl _ v' (fun k h => ownB_row.2 h) (by rw [ownBlk_row]; exact hgr) (fun k hkk => by rw [ownB_row, ownBlk_row] at hkk; rw [ownBlk_row]; exact hk k hkk) (fun ev => ?_)
      refine ⟨hb2, ⟨flat ++ news, ?_, cells_app ev hown.1 hcell k4⟩, fun hnn' => ?_⟩
      · rw [q2] at ho
        have hlen : (xs ++ ys).length = xs.length + ys.length := List.length_append
        have : (castL rfl xs ++ ys).length = xs.length + ys.length := hlen
        rw [this]; exact ho
      · rcases Bool.or_eq_true _ _ ▸ hnn' with hh | hh
        · exact hn (.inr (hnn hh))
        · exact hn (.inl (hne hh))
    · refine ⟨_, rfl, Lab.put_same ρ lab v', ?_⟩
      rcases ho.2 with ⟨h, _⟩ | ⟨g, cap, cur, h, _⟩ <;> exact ⟨_, _, _, h⟩
  | fr e0 K' xs =>
    simp only [appS] at g8
    split at g8
    case isFalse => exact g8.elim
    rename_i hK
    subst hK
    obtain ⟨hby, hm0, hQ⟩ := g8
    obtain ⟨⟨A, hx⟩, vv, hvv, _, A', cap, hxx, hcl, hcm, hrow⟩ := hc
    cases hvv
    rw [hx] at hxx
    injection hxx with p1 p2 p3
    subst p1
    have holds : ∃ olds : List Value, olds.length = xs.length * i.kd.n ∧ (∀ ad, A = some ad → ∀ j v, olds[j]? = some v → W.cell? (ad.add j) = some v) ∧ (A = none → xs.length = 0) ∧ ∀ (j : Nat) x, xs[j]? = some x → (i.kd.sem P).cells (Xs st ρ X0) W x ((olds.drop (j * i.kd.n)).take i.kd.n) := by
      by_cases h0 : xs = []
      · subst h0
        exact ⟨[], by simp, by simp, by simp, fun j x hx => by simp at hx⟩
      · obtain ⟨ad, hA, _, _, hget⟩ := hrow h0
        obtain ⟨olds, r1, r2, r3, r4⟩ := elems_cells hget
        refine ⟨olds, r1, fun ad' h => ?_, fun h => ?_, r4⟩
        · rw [hA] at h; cases h; exact r2
        · rw [hA] at h; cases h
    obtain ⟨olds, r1, r2, r3, r4⟩ := holds
    obtain ⟨b, hBb, hbn⟩ := k2 hm0
    subst hBb
    obtain ⟨cp, w', hr, ho, hbl⟩ := run_append_new (W := W) t o.type e inf z ht q1 q4 hzs A xs.length xs.length olds (by rw [q2]; exact r1) (fun h => ⟨r3 h, r3 h⟩) r2 b ys.length cB news (by rw [q2]; exact k1) hbn (by omega) (small _ hby) (by rw [q3]; exact hby)
    have hr' := hr
    rw [← hx, ← hy] at hr'
    refine .inl ⟨_, w', exec _ _ hr', Fits.new m hlab _ (.slice (some ⟨W.heap.size, 0, none⟩) (xs.length + ys.length) cp) hbl (fun k hkk => ?_) (fun ev _ => ?_) hQ (fun X hρ => ⟨_, rfl, hρ, _, _, _, rfl⟩)⟩
    · rw [ownB_row, ownBlk_row] at hkk
      exact ho.lt k hkk
    · refine ⟨hb2, ⟨olds ++ news, ?_, cells_app ev r1 r4 k4⟩, fun _ => ⟨_, _, _, rfl⟩⟩
      have : (castL rfl xs ++ ys).length = xs.length + ys.length := List.length_append
      rw [this]
      rw [q2] at ho
      refine ⟨ho.1, ?_⟩
      rcases ho.2 with ⟨h, _⟩ | ⟨g, cap, cur, w1, w2, w3⟩
      · cases h
      · exact .inr ⟨g, cap, cur, w1, Nat.zero_le _, w3⟩
  | inn l vl j =>
    obtain ⟨us, hu, hj, ⟨a1, n1, c1, hsl⟩, _⟩ := hc
    simp only [appS] at g8
    split at g8
    case h_2 => exact g8.elim
    rename_i nn e0 ag e1 K' xs vl' hl
    obtain ⟨hcond, g9⟩ := chk_iff.1 g8
    simp only [Bool.and_eq_true, Bool.not_eq_true'] at hcond
    obtain rfl := Nat.eq_of_beq_eq_true hcond.1.1
    obtain rfl := Nat.eq_of_beq_eq_true hcond.1.2
    split at g9
    case isFalse => exact g9.elim
    rename_i hK
    subst hK
    obtain ⟨hby, hQ⟩ := g9
    obtain ⟨s, hs⟩ := look_some hl
    obtain ⟨v, hv, ⟨us', hu', mo⟩, hnnv⟩ := m.hps l _ s hs
    rw [hu] at hu'
    obtain rfl := tuple_inj hu'
    have hlt : j < xs.length := by rw [← mo.len]; exact (List.getElem?_eq_some_iff.1 hj).1
    have hxj : xs[j]? = some (xs.getD j []) := by rw [List.getD_eq_getElem?_getD, List.getElem?_eq_getElem hlt]; rfl
    obtain ⟨fl, hown, hcell⟩ := mo.inr j _ _ hj hxj rfl
    obtain ⟨v', w', hr, ho, hgr, hk, hn⟩ := core (a.eval x) (xs.getD j []).length fl (by rw [q2]; exact hown) hby
    rw [← hy] at hr
    have hρ' := m.le_put hlab v'
    have hll : l ≠ lab := by intro h; subst h; exact m.nolab hlab _ s hs
    have hu2 : (ρ.put lab v') vl = some (.tuple us.toArray) := hρ' _ _ hu
    have ownI : ∀ (j : Nat) u k, us[j]? = some u → u.ownBlock = some k → OwnB ρ (.mat nn e0 ag e1 i.kd xs none vl) v k := fun j u k hj hk => (mat_own hu).2 (.inr ⟨j, u, rfl, hj, hk⟩)
    have lt : ∀ {k}, OwnB ρ (.mat nn e0 ag e1 i.kd xs none vl) v k → k < W.heap.size := by
      intro k hk
      obtain ⟨v2, hv2, hok⟩ := m.hps l _ s hs
      rw [hv] at hv2; cases hv2
      exact (hok.lt hk).2
    have keep : ∀ k, k < W.heap.size → (a.eval x).ownBlock ≠ some k → w'.heap[k]? = W.heap[k]? := fun k hk' hne => hgr.block k hk' (fun h => hne h.symm)
    have isH : ∀ j', isHole (some j) j' = false → j' ≠ j := by
      intro j' h hh
      subst hh
      simp [isHole] at h
    have hmat : MatOK P w' e0 e1 i.kd xs (some j) us v := by
      refine ⟨mo.flat, mo.pos, mo.len, ?_, fun j' u xr hj' hx hh => (mo.inr j' u xr hj' hx rfl).keep mo.flat (fun k hk' => keep k (lt (ownI j' u k hj' hk')) (fun hx' => mo.dis j' j u _ k (isH j' hh) hj' hj rfl rfl hk' hx')), fun j1 j2 u u' k hne h1 h2 _ _ hk' => mo.dis j1 j2 u u' k hne h1 h2 rfl rfl hk', fun j1 u k h1 _ hk' => mo.apart j1 u k h1 rfl hk'⟩
      obtain ⟨hd2, ho2, hh2⟩ := mo.out
      exact ⟨hd2, ownsRow_keep ho2 (fun k hk' => keep k (lt ((mat_own hu).2 (.inl hk'))) (fun hx' => mo.apart j _ k hj rfl hx' hk')), fun j1 u h1 _ => hh2 j1 u h1 rfl⟩
    have hlast : ∀ l' he, lastU [(l, some (HE.mat nn e0 ag e1 i.kd xs (some j) vl)), (lab, some (HE.row (litB d) e1 i.kd (castL rfl (xs.getD j []) ++ ys)))] l' = some (some he) → (l' = l ∧ he = .mat nn e0 ag e1 i.kd xs (some j) vl) ∨ (l' = lab ∧ he = .row (litB d) e1 i.kd (castL rfl (xs.getD j []) ++ ys)) := by
      intro l' he h
      simp only [lastU] at h
      by_cases h1 : l' = lab
      · subst h1
        simp only [Nat.beq_refl, cond_true, Option.some.injEq] at h
        exact .inr ⟨rfl, h.symm⟩
      · by_cases h2 : l' = l
        · subst h2
          simp only [beq_ne h1, Nat.beq_refl, cond_true, cond_false, Option.some.injEq] at h
          exact .inl ⟨rfl, h.symm⟩
        · simp only [beq_ne h1, beq_ne h2, cond_false] at h
          cases h
    have hmem : ∀ l', memL l' ([(l, some (HE.mat nn e0 ag e1 i.kd xs (some j) vl)), (lab, some (HE.row (litB d) e1 i.kd (castL rfl (xs.getD j []) ++ ys)))].map (·.1)) = true ↔ l' = l ∨ l' = lab := by
      intro l'; rw [memL_iff]; simp
    have hvρ : (ρ.put lab v') l = some v := hρ' _ _ hv
    obtain ⟨m', ev⟩ := m.multi (ρ' := ρ.put lab v') [(l, some (HE.mat nn e0 ag e1 i.kd xs (some j) vl)), (lab, some (HE.row (litB d) e1 i.kd (castL rfl (xs.getD j []) ++ ys)))] (fun l' he s' hl' h => by
        rcases (hmem l').1 hl' with rfl | rfl
        · rw [hs] at h; cases h; rfl
        · exact absurd h (m.nolab hlab he s')) hρ' (fun l' u hu' => by
        by_cases h1 : l' = lab
        · exact .inr ((hmem l').2 (.inr h1))
        · rw [Lab.put_other _ _ h1] at hu'; exact .inl hu') hgr.os hgr.tape hgr.output hgr.size (fun k hk' hno => keep k hk' (fun hx' => hno l _ s v ((hmem l).2 (.inl rfl)) hs hv (ownI j _ k hj hx'))) (fun l' he u k h h2 h3 => by
        rcases hlast l' he h with ⟨rfl, rfl⟩ | ⟨rfl, rfl⟩
        · rw [hvρ] at h2; cases h2
          have h4 : OwnB ρ (.mat nn e0 ag e1 i.kd xs none vl) v k := by
            rcases (mat_own hu2).1 h3 with h | ⟨j1, u1, _, h1, h2⟩
            · exact (mat_own hu).2 (.inl h)
            · exact ownI j1 u1 k h1 h2
          exact ⟨Nat.lt_of_lt_of_le (lt h4) hgr.size, .inr ⟨_, _, s, v, (hmem _).2 (.inl rfl), hs, hv, h4⟩⟩
        · rw [Lab.put_same] at h2; cases h2
          rw [ownB_row, ownBlk_row] at h3
          obtain ⟨p1, p2⟩ := hk k h3
          refine ⟨p1, p2.imp id (fun p2 => ⟨l, _, s, v, (hmem l).2 (.inl rfl), hs, hv, ownI j _ k hj p2⟩)⟩) (fun ev l' he h => by
        rcases hlast l' he h with ⟨rfl, rfl⟩ | ⟨rfl, rfl⟩
        · exact ⟨v, hvρ, ⟨us, hu2, hmat⟩, hnnv⟩
        · refine ⟨v', Lab.put_same _ _ _, hb2, ⟨fl ++ news, ?_, cells_app ev hown.1 (fun i1 x1 h1 => Kd.flat_cells P i.kd mo.flat (X' := Xs st ρ X0) (W' := W) (hcell i1 x1 h1)) k4⟩, fun hnn' => hn (.inl (hne hnn'))⟩
          rw [q2] at ho
          have : (castL rfl (xs.getD j []) ++ ys).length = (xs.getD j []).length + ys.length := List.length_append
          rw [this]; exact ho) (fun l1 l2 he1 he2 u1 u2 k h1 h2 h3 h4 h5 h6 => by
        have contra : ∀ k, OwnB (ρ.put lab v') (.mat nn e0 ag e1 i.kd xs (some j) vl) v k → v'.ownBlock = some k → False := by
          intro k g1 g2
          rcases (hk k g2).2 with g3 | g3
          · have : OwnB ρ (.mat nn e0 ag e1 i.kd xs none vl) v k := by
              rcases (mat_own hu2).1 g1 with h | ⟨j1, u1, _, h1, h2⟩
              · exact (mat_own hu).2 (.inl h)
              · exact ownI j1 u1 k h1 h2
            have := lt this
            omega
          · rcases (mat_own hu2).1 g1 with h | ⟨j1, u1, hh, h1, h2⟩
            · exact mo.apart j _ k hj rfl g3 h
            · exact mo.dis j1 j u1 _ k (isH j1 hh) h1 hj rfl rfl h2 g3
        rcases hlast l1 he1 h1 with ⟨rfl, rfl⟩ | ⟨rfl, rfl⟩ <;> rcases hlast l2 he2 h2 with ⟨rfl, rfl⟩ | ⟨rfl, rfl⟩
        · rfl
        · rw [hvρ] at h3; cases h3
          rw [Lab.put_same] at h4; cases h4
          rw [ownB_row, ownBlk_row] at h6
          exact (contra k h5 h6).elim
        · rw [hvρ] at h4; cases h4
          rw [Lab.put_same] at h3; cases h3
          rw [ownB_row, ownBlk_row] at h5
          exact (contra k h6 h5).elim
        · rfl)
    refine .inl ⟨v', w', exec _ _ hr, .mk false [.own lab], _, ρ.put lab v', hQ, hρ', m', ⟨_, rfl, Lab.put_same ρ lab v', ?_⟩, hgr.size⟩
    rcases ho.2 with ⟨h, _⟩ | ⟨g, cap, cur, h, _⟩ <;> exact ⟨_, _, _, h⟩
  | _ => exact g8.elim
end
end Go.GX
set_option linter.unusedVariables false
namespace Go.GX
variable [Inhabited BaseD]
open Go.RowKit Go.Shelf Go.Proofs

theorem run_copy_rows {P : Program} (w : World) (dT sT ty elem : TypeId) (g o dLen dCap : Nat) (a : Addr) (sLen sCap size : Nat) (cur : Array Value) (t : TypeId) (cs : List Value)
    (hu : P.underlying dT = some (.slice elem)) (hs : (sizeOf elem).run P w = .ok size w)
    (hg : w.heap[g]? = some (.cells cur t (0, 0))) (hn : cs.length = Nat.min sLen dLen * size)
    (hsrc : ∀ j v, cs[j]? = some v → w.cell? (a.add j) = some v) (hfit : o + cs.length ≤ cur.size) (h1 : ∀ v ∈ cs, v.oneCell' = true) :
    (Builtin.copy_ #[dT, sT] ty #[.slice (some ⟨g, o, none⟩) dLen dCap, .slice (some a) sLen sCap]).run P w =
      .ok (goInt (Nat.min sLen dLen)) (w.setRow g (cur.toList.take o ++ cs ++ cur.toList.drop (o + cs.length)).toArray) := by
  have hl := run_loadCells_list (P := P) w a cs hsrc
  have hst := run_storeCells_at P g o t cs 0 cur w hg (by simpa using hfit) h1
  simp only [Nat.add_zero] at hst
  simp [Builtin.copy_, run_underlying hu, Builtin.lenOf, Builtin.firstCells, hs, Result.andThen]
  rw [← hn, hl]
  simp [hst]

theorem run_copy_zero {P : Program} (w : World) (dT sT ty elem : TypeId) (d a : Option Addr) (dLen dCap sLen sCap size : Nat) (hu : P.underlying dT = some (.slice elem)) (hs : (sizeOf elem).run P w = .ok size w) (hn : Nat.min sLen dLen = 0) :
    (Builtin.copy_ #[dT, sT] ty #[.slice d dLen dCap, .slice a sLen sCap]).run P w = .ok (goInt 0) w := by
  have hl : ∀ (x : Addr), (loadCells x 0).run P w = .ok #[] w := fun x => by simpa using run_loadCells_list (P := P) w x [] (by simp)
  cases d <;> cases a <;> simp [Builtin.copy_, run_underlying hu, Builtin.lenOf, Builtin.firstCells, hs, hn, storeCells, hl, Result.andThen]

section
variable {P : Program} {glb : Nat → Option GV} {Bk X0 : Nat → Prop} {w0 : World} {st : St} {ρ : Lab} {a : Act} {W W' : World} {S : Stat} {dr : Bool} {lab : Nat} {o : Oper} {Q : Eff} {Z : Nat → Bool}

theorem copyTo_ok (m : Mt P glb Bk X0 w0 st ρ a W) {d : SC} {k : Nat → Nat → Nat → Prop} {v : Value} (h : copyTo st.look d k) (hv : RepC P ρ (Xs st ρ X0) W d v) :
    ∃ l lo hi nn e K, ∃ xs : List K.T, ∃ A0 c A q, st.look l = some (.row nn e K xs) ∧ k l lo hi ∧ lo ≤ hi ∧ hi ≤ xs.length ∧ ρ l = some (.slice A0 xs.length c) ∧ v = .slice A (hi - lo) q ∧ (lo < hi → ∃ ad, A0 = some ad ∧ A = some ((ad : Addr).add (lo * K.n))) := by
  unfold copyTo at h
  split at h
  · rename_i l
    split at h
    · rename_i nn e K xs hl
      obtain ⟨hρ, A0, n0, c0, hx⟩ := hv
      obtain ⟨s, hs⟩ := look_some hl
      obtain ⟨A, cap, hx', _, _, hr⟩ := (m.rowVal (Z := fun _ => true) (e' := e) hs hρ rfl).1
      refine ⟨l, 0, xs.length, nn, e, K, xs, A, cap, A, cap, hl, h, Nat.zero_le _, Nat.le_refl _, by rw [hρ, hx'], by rw [hx']; rfl, fun hlt => ?_⟩
      obtain ⟨ad, rfl, _⟩ := hr (by intro h; subst h; simp at hlt)
      exact ⟨ad, rfl, by rw [Nat.zero_mul, addZero]⟩
    · exact h.elim
  · rename_i l lo hi sz
    split at h
    · rename_i nn e K xs hl
      obtain ⟨hsz, hk⟩ := chk_iff.1 h
      clear h
      obtain rfl := Nat.eq_of_beq_eq_true hsz
      obtain ⟨A0, n, c, hρ, h1, h2, A, q, rfl, h3, h4, _, h5⟩ := hv
      obtain ⟨s, hs⟩ := look_some hl
      obtain ⟨A1, cap, hx', _, _, hr⟩ := (m.rowVal (Z := fun _ => true) (e' := e) hs hρ rfl).1
      injection hx' with q1 q2 q3
      subst q1; subst q2; subst q3
      exact ⟨l, lo, hi, nn, e, K, xs, A0, c, A, q, hl, hk, h1, h2, hρ, rfl, h5⟩
    · exact h.elim
  · exact h.elim

theorem sem_copy (hS : StatOK P S) (hg : S.glb = glb) (m : Mt P glb Bk X0 w0 st ρ a W) {cl : Call} {x y : Operand} {t t' : TypeId} (hop : o.op = .call cl) (hc1 : cl.callee = .builtin .copy) (hc2 : cl.args.toList = [x, y]) (hc3 : cl.argTypes.toList = [t, t'])
    (h : optK (S.sl t) fun e => optK (S.ty e) fun i => oneC (ev S st t x) fun d => oneC (ev S st t' y) fun s => copyS st.look i d s Q) : OpOut P o a W (Fits P glb Bk X0 w0 st ρ a W Q) := by
  obtain ⟨e, he, g2⟩ := optK_ok h
  obtain ⟨i, hi, g3⟩ := optK_ok g2
  obtain ⟨d, g4, hd⟩ := oneC_ok g3 (ev_ok hS hg m t x)
  obtain ⟨s, g5, hs⟩ := oneC_ok g4 (ev_ok hS hg m t' y)
  clear h g2 g3 g4
  obtain ⟨l, lo, hh, nn0, e0, K0, xs0, A0, c, A, q, hl, hk, h1, h2, hρ, hx, h3⟩ := copyTo_ok m g5 hd
  obtain ⟨⟨K', ys, ls⟩, hys, g6⟩ := optK_ok hk
  clear g5 hk
  rw [hl] at g6
  obtain ⟨hc, g7⟩ := chk_iff.1 g6
  simp only [Bool.and_eq_true] at hc
  obtain ⟨⟨⟨hnn0, hf⟩, hn⟩, hn1⟩ := hc
  subst hnn0
  have hn := Nat.eq_of_beq_eq_true hn
  have hn1 := Nat.le_of_ble_eq_true hn1
  split at g7
  case isFalse => exact g7.elim
  rename_i hK
  simp only at hK
  subst hK
  have hQ : Q (intSV .i64 (min (hh - lo) ys.length : Nat)) [(l, some (.row true e0 K' (xs0.take lo ++ ys.take (min (hh - lo) ys.length) ++ xs0.drop (lo + min (hh - lo) ys.length))))] := g7
  clear g6 g7
  have ht := hS.sl t e he
  have hsz := run_sizeOf hS hi W
  have exec : ∀ v W', (Builtin.copy_ #[t, t'] o.type #[a.eval x, a.eval y]).run P W = .ok v W' → (execOp a.eval o).run P W = .ok (.value v) W' := by
    intro v W' hr
    have ha : cl.args = #[x, y] := Array.ext' hc2
    have hat : cl.argTypes = #[t, t'] := Array.ext' hc3
    unfold execOp; rw [hop]
    simp [resolve, hc1, invoke, builtin, ha, hat, hr]
  obtain ⟨B, cB, hy, hyl, hym, hyr⟩ := slElems m (by
    rintro l' nn e' ag e1 K1 zs vl rfl hl'
    simp only [slData, hl'] at hys
    cases hys
    cases ag <;> simp [elK, Kd.flat] at hf) hys hs
  obtain ⟨s0, hs0⟩ := look_some hl
  obtain ⟨v', hv', hok⟩ := m.hps l _ s0 hs0
  rw [hρ] at hv'; injection hv' with hv'; subst hv'
  obtain ⟨h0, ⟨flat, ⟨ho1, ho2⟩, hcell⟩, hnn⟩ := hok
  rcases ho2 with ⟨hv0, _⟩ | ⟨g, cap, cur, hvv, k1, k2, k3, k4, k5, k6⟩
  · obtain ⟨a0, n0, c0, hn0⟩ := hnn rfl
    rw [hv0] at hn0; cases hn0
  injection hvv with q1 q2 q3
  subst q1; subst q3
  have hown : OwnB ρ (.row true e0 K' xs0) (.slice (some ⟨g, 0, none⟩) xs0.length c) g := .inl rfl
  have hnm : Nat.min ys.length (hh - lo) = min (hh - lo) ys.length := Nat.min_comm _ _
  obtain ⟨mn, hmd⟩ : ∃ mn, mn = min (hh - lo) ys.length := ⟨_, rfl⟩
  rw [← hmd] at hQ hnm
  have hml : mn ≤ ys.length := by omega
  have hmh : mn ≤ hh - lo := by omega
  have hm0 : mn = 0 → lo = hh ∨ ys.length = 0 := by omega
  by_cases hz : mn = 0
  · have hrun := run_copy_zero (P := P) W t t' o.type e A B (hh - lo) q ys.length cB i.kd.n ht hsz (hnm.trans hz)
    rw [← hx, ← hy] at hrun
    refine .inl ⟨_, W, exec _ _ hrun, _, _, ρ, hQ, ρ.le_refl, ?_, ?_, Nat.le_refl _⟩
    · rw [hz, Nat.add_zero, List.take_zero, List.append_nil, List.take_append_drop]
      refine m.upd hs0 hρ hown rfl _ (fun k hk => hk) ⟨rfl, rfl, rfl, Nat.le_refl _, fun _ _ _ => rfl⟩ (fun ee => ?_)
      refine ⟨h0, ⟨flat, ⟨ho1, .inr ⟨g, c, cur, rfl, k1, k2, k3, k4, k5, k6⟩⟩, fun j x hj => (Kd.stands P K').cells ee (hcell j x hj)⟩, hnn⟩
    · rw [hz]; exact rep_int _ _
  · have hlt : lo < hh := by omega
    obtain ⟨ad, had, rfl⟩ := h3 hlt
    cases had
    obtain ⟨ad2, rfl, hget⟩ := hyr (by intro h; subst h; simp at hml; exact hz hml)
    obtain ⟨news, n1, n2, n3, n4⟩ := elems_cells hget
    have hmn : mn * K'.n ≤ ys.length * K'.n := Nat.mul_le_mul_right _ hml
    obtain ⟨cs, hcs⟩ : ∃ cs, cs = news.take (mn * K'.n) := ⟨_, rfl⟩
    have hcl : cs.length = mn * K'.n := by rw [hcs, List.length_take, n1]; omega
    have hlo : lo * K'.n + cs.length ≤ xs0.length * K'.n := by
      rw [hcl, ← Nat.add_mul]
      exact Nat.mul_le_mul_right _ (by omega)
    have hcap : xs0.length * K'.n ≤ c * K'.n := Nat.mul_le_mul_right _ k3
    have hrun := run_copy_rows (P := P) W t t' o.type e g (lo * K'.n) (hh - lo) q ad2 ys.length cB i.kd.n cur e0 cs ht hsz k2 (by rw [hnm, hcl, hn]) (fun j v hj => n2 j v (by
      rw [hcs, List.getElem?_take] at hj
      split at hj
      · exact hj
      · cases hj)) (by rw [k5]; omega) (fun v hv => n3 v (List.mem_of_mem_take (hcs ▸ hv)))
    rw [plainAdd, Nat.zero_add] at hx
    rw [← hx, ← hy] at hrun
    have hxl : (xs0.take lo ++ ys.take (mn) ++ xs0.drop (lo + mn)).length = xs0.length := by simp; omega
    refine .inl ⟨_, _, exec _ _ hrun, _, _, ρ, hQ, ρ.le_refl, ?_, ?_, by simp⟩
    · refine m.upd hs0 hρ hown rfl _ (fun k hk => hk) (grown_setRow W g _) (fun ee => ?_)
      refine ⟨h0, ⟨splice flat (lo * K'.n) cs, ⟨?_, .inr ⟨g, c, _, ?_, k1, setRow_heap W g cur _ e0 _ k2, ?_, k4, ?_, ?_⟩⟩, fun j z hj => ?_⟩, hnn⟩
      · rw [splice_length _ _ _ (by omega), ho1, hxl]
      · rw [hxl]
      · rw [hxl]; exact k3
      · rw [List.size_toArray]
        show (splice cur.toList _ _).length = _
        rw [splice_length _ _ _ (by simp; omega), Array.length_toList, k5]
      · rw [hxl]
        show (splice cur.toList _ _).take _ = _
        rw [take_splice _ _ _ _ (by omega) (by simp; omega), k6]
      · have hjl : j < xs0.length := by rw [← hxl]; exact (List.getElem?_eq_some_iff.1 hj).1
        have hjn : j * K'.n + K'.n ≤ xs0.length * K'.n := by rw [← Nat.succ_mul]; exact Nat.mul_le_mul_right _ hjl
        have part : ∀ (L : List Value) (off : Nat), (∀ p, p < K'.n → (splice flat (lo * K'.n) cs)[j * K'.n + p]? = L[off + p]?) → ((splice flat (lo * K'.n) cs).drop (j * K'.n)).take K'.n = (L.drop off).take K'.n := by
          intro L off hp
          apply List.ext_getElem?
          intro p
          rw [List.getElem?_take, List.getElem?_take, List.getElem?_drop, List.getElem?_drop]
          split
          · rename_i hpk; exact hp p hpk
          · rfl
        by_cases hj1 : j < lo
        · have : ((splice flat (lo * K'.n) cs).drop (j * K'.n)).take K'.n = (flat.drop (j * K'.n)).take K'.n := part flat _ fun p hp => by
            have : j * K'.n + K'.n ≤ lo * K'.n := by rw [← Nat.succ_mul]; exact Nat.mul_le_mul_right _ hj1
            rw [splice_get _ _ _ (by omega), if_pos (by omega)]
          rw [this]
          refine (Kd.stands P K').cells ee (hcell j z ?_)
          rw [List.append_assoc, List.getElem?_append_left (by simp; omega), List.getElem?_take, if_pos hj1] at hj
          exact hj
        · by_cases hj2 : j < lo + mn
          · have hb1 : (j - lo) * K'.n + K'.n ≤ mn * K'.n := by rw [← Nat.succ_mul]; exact Nat.mul_le_mul_right _ (by omega)
            have hb2 : (j - lo) * K'.n = j * K'.n - lo * K'.n := Nat.sub_mul _ _ _
            have hb3 : lo * K'.n ≤ j * K'.n := Nat.mul_le_mul_right _ (by omega)
            have : ((splice flat (lo * K'.n) cs).drop (j * K'.n)).take K'.n = (news.drop ((j - lo) * K'.n)).take K'.n := part news _ fun p hp => by
              rw [splice_get _ _ _ (by omega), if_neg (by omega), if_pos (by omega), hcs, List.getElem?_take, if_pos (by omega)]
              congr 1; omega
            rw [this]
            refine (Kd.stands P K').cells ee (n4 (j - lo) z ?_)
            rw [List.append_assoc, List.getElem?_append_right (by simp; omega), List.length_take, Nat.min_eq_left (by omega : lo ≤ xs0.length), List.getElem?_append_left (by simp; omega), List.getElem?_take, if_pos (by omega)] at hj
            exact hj
          · have hb1 : lo * K'.n + cs.length ≤ j * K'.n := by rw [hcl, ← Nat.add_mul]; exact Nat.mul_le_mul_right _ (by omega)
            have : ((splice flat (lo * K'.n) cs).drop (j * K'.n)).take K'.n = (flat.drop (j * K'.n)).take K'.n := part flat _ fun p hp => by
              rw [splice_get _ _ _ (by omega), if_neg (by omega), if_neg (by omega)]
            rw [this]
            refine (Kd.stands P K').cells ee (hcell j z ?_)
            rw [List.getElem?_append_right (by simp; omega), List.getElem?_drop] at hj
            rw [← hj]
            congr 1
            simp; omega
    · rw [hnm]
      exact rep_int _ _
theorem run_clear_rows {P : Program} (w : World) (t ty elem : TypeId) (g o n c : Nat) (i : TypeInfo) (z u : Value) (cur : Array Value) (t0 : TypeId) (hu : P.underlying t = some (.slice elem)) (hi : P.info? elem = some i) (hz : i.zero = some z) (hzc : z.cells.toList = [u])
    (hg : w.heap[g]? = some (.cells cur t0 (0, 0))) (hn : 0 < n) (hfit : o + n ≤ cur.size) (h1 : u.oneCell' = true) :
    (Builtin.clear_ #[t] ty #[.slice (some ⟨g, o, none⟩) n c]).run P w = .ok (.tuple #[]) (w.setRow g (cur.toList.take o ++ List.replicate n u ++ cur.toList.drop (o + n)).toArray) := by
  have hst := run_storeCells_at P g o t0 (List.replicate n u) 0 cur w hg (by simpa using hfit) (fun v hv => by rw [List.eq_of_mem_replicate hv]; exact h1)
  simp only [Nat.add_zero, List.length_replicate] at hst
  have hzs : z.cells = #[u] := by apply Array.ext'; rw [hzc]
  have hzl : (Builtin.zeroCells z.cells n).toList = List.replicate n u := by
    apply List.ext_getElem
    · simp [Builtin.zeroCells, hzs]
    · intro j h2 h3
      simp [Builtin.zeroCells, hzs, Nat.mod_one]
  cases n with
  | zero => omega
  | succ n =>
    simp [Builtin.clear_, run_underlying hu, zeroValue, typeInfo, hi, hz, hzl, hst, Result.andThen]

theorem run_clear_zero {P : Program} (w : World) (t ty elem : TypeId) (A : Option Addr) (c : Nat) (hu : P.underlying t = some (.slice elem)) : (Builtin.clear_ #[t] ty #[.slice A 0 c]).run P w = .ok (.tuple #[]) w := by
  cases A <;> simp [Builtin.clear_, run_underlying hu]

theorem kd1_zero {K : Kd} (h1 : K.n = 1) {us : List Value} (h : us.length = K.n) : ∃ u, us = [u] := by
  rw [h1] at h
  exact List.length_eq_one_iff.1 h

theorem sem_clear (hS : StatOK P S) (hg : S.glb = glb) (m : Mt P glb Bk X0 w0 st ρ a W) {cl : Call} {x : Operand} {t : TypeId} (hop : o.op = .call cl) (hc1 : cl.callee = .builtin .clear) (hc2 : cl.args.toList = [x]) (hc3 : cl.argTypes.toList = [t])
    (h : optK (S.sl t) fun e => optK (S.ty e) fun i => oneC (ev S st t x) fun d => clearS st.look i d Q) : OpOut P o a W (Fits P glb Bk X0 w0 st ρ a W Q) := by
  obtain ⟨e, he, g2⟩ := optK_ok h
  obtain ⟨i, hi, g3⟩ := optK_ok g2
  obtain ⟨d, g4, hd⟩ := oneC_ok g3 (ev_ok hS hg m t x)
  clear h g2 g3
  unfold clearS at g4
  split at g4
  case h_2 => exact g4.elim
  rename_i l lo hi' sz
  split at g4
  case h_2 => exact g4.elim
  rename_i nn e0 K xs hl
  obtain ⟨hc, hQ⟩ := chk_iff.1 g4
  simp only [Bool.and_eq_true, decide_eq_true_eq] at hc
  obtain ⟨⟨⟨⟨hsz, hn1⟩, hf⟩, hzok⟩, hKi⟩ := hc
  have hsz := Nat.eq_of_beq_eq_true hsz
  have hn1 := Nat.eq_of_beq_eq_true hn1
  subst hsz
  have ht := hS.sl t e he
  obtain ⟨harg, ⟨inf, z, g1, g2, _, g5, g6⟩, hagg⟩ := hS.ty e i hi
  have exec : ∀ v W', (Builtin.clear_ #[t] o.type #[a.eval x]).run P W = .ok v W' → (execOp a.eval o).run P W = .ok (.value v) W' := by
    intro v W' hr
    have ha : cl.args = #[x] := Array.ext' hc2
    have hat : cl.argTypes = #[t] := Array.ext' hc3
    unfold execOp; rw [hop]
    simp [resolve, hc1, invoke, builtin, ha, hat, hr]
  obtain ⟨A0, n, c, hρ, h1, h2, A, q, hx, h3, h4, _, h5⟩ := hd
  obtain ⟨s0, hs0⟩ := look_some hl
  obtain ⟨v', hv', hok⟩ := m.hps l _ s0 hs0
  rw [hρ] at hv'; injection hv' with hv'; subst hv'
  obtain ⟨h0, ⟨flat, ⟨ho1, ho2⟩, hcell⟩, hnn⟩ := hok
  have hzc : (K.sem P).cells (Xs st ρ X0) W K.dflt K.zv := zok_cells _ K hzok
  obtain ⟨u, hu⟩ := kd1_zero hn1 (Kd.cells_length P K hzc)
  have hu1 : u.oneCell' = true := Kd.cells_one P K hzc u (by rw [hu]; simp)
  have hzz : z.cells.toList = [u] := by rw [g6, ← hKi, hu]
  by_cases hz : lo = hi'
  · subst hz
    rw [Nat.sub_self] at hx
    have hrun := run_clear_zero (P := P) W t o.type e A q ht
    rw [← hx] at hrun
    refine .inl ⟨_, W, exec _ _ hrun, _, _, ρ, hQ, ρ.le_refl, ?_, trivial, Nat.le_refl _⟩
    rw [Nat.sub_self, List.replicate_zero, List.append_nil, List.take_append_drop]
    refine m.updR (row := none) hs0 hρ (fun k e => by cases e) rfl _ (fun k hk => hk) ⟨rfl, rfl, rfl, Nat.le_refl _, fun _ _ _ => rfl⟩ (fun ee => ?_)
    exact ⟨h0, ⟨flat, ⟨ho1, ho2⟩, fun j x hj => (Kd.stands P K).cells ee (hcell j x hj)⟩, hnn⟩
  · have hlt : lo < hi' := by omega
    obtain ⟨ad, had, rfl⟩ := h5 hlt
    subst had
    rcases ho2 with ⟨hv0, _⟩ | ⟨g, cap, cur, hvv, k1, k2, k3, k4, k5, k6⟩
    · cases hv0
    injection hvv with q1 q2 q3
    injection q1 with q1
    subst q1; subst q2; subst q3
    have hown : OwnB ρ (.row nn e0 K xs) (.slice (some ⟨g, 0, none⟩) xs.length c) g := .inl rfl
    rw [hn1, Nat.mul_one, plainAdd, Nat.zero_add] at hx
    rw [hn1, Nat.mul_one] at k5 k6 ho1
    have hrun := run_clear_rows (P := P) W t o.type e g lo (hi' - lo) q inf z u cur e0 ht g1 g5 hzz k2 (by omega) (by rw [k5]; omega) hu1
    rw [← hx] at hrun
    have hxl : (xs.take lo ++ List.replicate (hi' - lo) K.dflt ++ xs.drop hi').length = xs.length := by simp; omega
    have hsp : lo + (hi' - lo) = hi' := by omega
    refine .inl ⟨_, _, exec _ _ hrun, _, _, ρ, hQ, ρ.le_refl, ?_, trivial, by simp⟩
    refine m.upd hs0 hρ hown rfl _ (fun k hk => hk) (grown_setRow W g _) (fun ee => ?_)
    refine ⟨h0, ⟨flat.take lo ++ List.replicate (hi' - lo) u ++ flat.drop hi', ⟨?_, .inr ⟨g, c, _, ?_, k1, setRow_heap W g cur _ e0 _ k2, ?_, k4, ?_, ?_⟩⟩, fun j y hj => ?_⟩, hnn⟩
    · rw [hxl, hn1]; simp [ho1]; omega
    · rw [hxl]
    · rw [hxl]; exact k3
    · rw [List.size_toArray, hn1, hsp]
      simp only [List.length_append, List.length_take, List.length_replicate, List.length_drop, Array.length_toList]
      omega
    · rw [hxl, hn1, Nat.mul_one]
      rw [← k6, hsp]
      apply List.ext_getElem?
      intro p
      simp only [List.getElem?_take, List.getElem?_append, List.length_append, List.length_take, List.length_replicate, List.getElem?_replicate, List.getElem?_drop, Array.length_toList, Array.getElem?_toList]
      by_cases c1 : p < lo
      · have d1 : p < xs.length := by omega
        have d2 : p < hi' := by omega
        have d3 : p < min lo cur.size + (hi' - lo) := by omega
        have d4 : p < min lo cur.size := by omega
        have d5 : p < min lo (min xs.length cur.size) + (hi' - lo) := by omega
        have d6 : p < min lo (min xs.length cur.size) := by omega
        simp [c1, d1, d3, d4, d5, d6]
      · by_cases c2 : p < hi'
        · have d1 : p < xs.length := by omega
          have d3 : p < min lo cur.size + (hi' - lo) := by omega
          have d4 : ¬ p < min lo cur.size := by omega
          have d5 : p < min lo (min xs.length cur.size) + (hi' - lo) := by omega
          have d6 : ¬ p < min lo (min xs.length cur.size) := by omega
          simp only [d1, d3, d4, d5, d6, if_true, if_false]
          rw [show min lo cur.size = min lo (min xs.length cur.size) by omega]
        · have d3 : ¬ p < min lo cur.size + (hi' - lo) := by omega
          have d5 : ¬ p < min lo (min xs.length cur.size) + (hi' - lo) := by omega
          have d7 : hi' + (p - (min lo cur.size + (hi' - lo))) = p := by omega
          have d8 : hi' + (p - (min lo (min xs.length cur.size) + (hi' - lo))) = p := by omega
          simp only [d3, d5, if_false, d7, d8]
    · rw [hn1, Nat.mul_one]
      have hjl : j < xs.length := by rw [← hxl]; exact (List.getElem?_eq_some_iff.1 hj).1
      have old : ∀ y, xs[j]? = some y → (flat.take lo ++ List.replicate (hi' - lo) u ++ flat.drop hi')[j]? = flat[j]? → (K.sem P).cells (Xs (st.upds [(l, some (.row nn e0 K (xs.take lo ++ List.replicate (hi' - lo) K.dflt ++ xs.drop hi')))]) ρ X0) (W.setRow g (cur.toList.take lo ++ List.replicate (hi' - lo) u ++ cur.toList.drop (lo + (hi' - lo))).toArray) y (((flat.take lo ++ List.replicate (hi' - lo) u ++ flat.drop hi').drop j).take 1) := by
        intro y hy he
        have := (Kd.stands P K).cells ee (hcell j y hy)
        rw [hn1, Nat.mul_one] at this
        have e2 : ((flat.take lo ++ List.replicate (hi' - lo) u ++ flat.drop hi').drop j).take 1 = (flat.drop j).take 1 := by
          apply List.ext_getElem?
          intro p
          rw [List.getElem?_take, List.getElem?_take]
          split
          · rename_i hp
            have hp : p = 0 := by omega
            subst hp
            rw [List.getElem?_drop, List.getElem?_drop, Nat.add_zero]; exact he
          · rfl
        rw [e2]; exact this
      by_cases c1 : j < lo
      · refine old y ?_ ?_
        · rw [List.append_assoc, List.getElem?_append_left (by simp; omega), List.getElem?_take, if_pos c1] at hj
          exact hj
        · rw [List.append_assoc, List.getElem?_append_left (by simp; omega), List.getElem?_take, if_pos c1]
      · by_cases c2 : j < hi'
        · have hy : y = K.dflt := by
            rw [List.append_assoc, List.getElem?_append_right (by simp; omega), List.getElem?_append_left (by simp; omega), List.getElem?_replicate] at hj
            split at hj
            · exact (Option.some.inj hj).symm
            · cases hj
          subst hy
          have e2 : ((flat.take lo ++ List.replicate (hi' - lo) u ++ flat.drop hi').drop j).take 1 = [u] := by
            have hlt2 : j < (flat.take lo ++ List.replicate (hi' - lo) u ++ flat.drop hi').length := by simp [ho1]; omega
            rw [List.drop_eq_getElem_cons hlt2]
            have : (flat.take lo ++ List.replicate (hi' - lo) u ++ flat.drop hi')[j]? = some u := by
              rw [List.append_assoc, List.getElem?_append_right (by simp [ho1]; omega), List.getElem?_append_left (by simp [ho1]; omega), List.getElem?_replicate, if_pos (by simp [ho1]; omega)]
            rw [List.getElem?_eq_getElem hlt2] at this
            rw [Option.some.inj this]; rfl
          rw [e2]
          have := (Kd.stands P K).cells ee hzc
          rw [hu] at this
          exact this
        · refine old y ?_ ?_
          · rw [List.getElem?_append_right (by simp; omega), List.getElem?_drop] at hj
            rw [← hj]; congr 1; simp; omega
          · rw [List.getElem?_append_right (by simp [ho1]; omega), List.getElem?_drop]
            congr 1; simp [ho1]; omega
end
end Go.GX
set_option linter.unusedVariables false
namespace Go.GX
variable [Inhabited BaseD]
open Go.RowKit Go.Shelf Go.Proofs

section
variable {P : Program} {glb : Nat → Option GV} {Bk X0 : Nat → Prop} {w0 : World} {st : St} {ρ : Lab} {a : Act} {W W' : World} {S : Stat} {dr : Bool} {lab : Nat} {o : Oper} {Q : Eff}

theorem giv_ok {α : Type} {g : (α → Prop) → Prop} {k : α → Prop} (h : giv dr g k) : ∃ k' : α → Prop, g k' ∧ ∀ r, k' r → k r := by
  cases dr with
  | false => exact ⟨k, h, fun _ h => h⟩
  | true =>
    obtain ⟨r, h1, h2⟩ := h
    exact ⟨_, h1, fun r' h' => h' ▸ h2⟩

theorem keyS_ok (hS : StatOK P S) (hct : CtOK P glb S) (hg : S.glb = glb) (m : Mt P glb Bk X0 w0 st ρ a W) {t : TypeId} {x k : Operand} {F : List memoK.T → memoKeyK.T → Prop} (h : keyS S st t x k F) :
    ∃ (xs : List memoK.T) (key : memoKeyK.T) (b : Nat), F xs key ∧ a.eval x = .map (some b) ∧ a.eval k = .agg (memoKeyK.fc key).toArray ∧ PackAt (Xs st ρ X0) W b xs ∧ GoodAt W b xs := by
  unfold keyS at h
  obtain ⟨c, h, hc⟩ := oneC_ok h (ev_ok hS hg m t x)
  split at h
  case h_2 => exact h.elim
  rename_i K xs
  split at h
  case isFalse => exact h.elim
  rename_i hK
  have hk := ev_ok hS hg m t k
  split at h
  case h_2 => exact h.elim
  rename_i cs he
  rw [he] at hk
  obtain ⟨⟨key, r, ls⟩, hd, h⟩ := optK_ok h
  obtain ⟨hb, h⟩ := chk_iff.1 h
  simp only [Bool.and_eq_true, List.isEmpty_iff] at hb
  obtain ⟨rfl, rfl⟩ := hb
  obtain ⟨vs, hv, hcs⟩ := hk
  obtain ⟨v1, v2, rfl, h1, h2⟩ := decs_ok (Z := fun _ => true) (dec1_ok m hct fuel) memoKeyK cs key [] [] vs hd hcs (fun l hl => by simp at hl)
  have h2 : v2 = [] := h2
  subst h2
  rw [List.append_nil] at hv
  rw [Kd.fc_cells P memoKeyK memoKeyK_flat] at h1
  subst h1
  obtain ⟨v, hv', _, _, b, hm, hp, hgd⟩ := hc
  cases hv'
  exact ⟨_, key, b, h, hm, hv, hp, hgd⟩

theorem sem_lookup (hS : StatOK P S) (hct : CtOK P glb S) (hg : S.glb = glb) (m : Mt P glb Bk X0 w0 st ρ a W) {t : TypeId} {x k : Operand} {ok : Bool} (hop : o.op = .lookup t x k ok) (h : lookS S dr st t x k ok Q) : OpOut P o a W (Fits P glb Bk X0 w0 st ρ a W Q) := by
  unfold lookS at h
  obtain ⟨p, hp, h⟩ := optK_ok h
  obtain ⟨hok1, h'⟩ := chk_iff.1 h
  clear h
  subst hok1
  obtain ⟨xs, key, b, h, hx, hk, hpa, es, clock, hb, hes⟩ := keyS_ok hS hct hg m h'
  clear h'
  have K := hS.mp t p hp
  obtain ⟨k', h1, h2⟩ := giv_ok h
  have run : ∀ r, (Instr.findKey p.1 (.agg (memoKeyK.fc key).toArray) es.toList).run P W = .ok r W → (execOp a.eval o).run P W = .ok (.value (.tuple #[(match r with | some q => q.2 | none => .int .i64 0), .bool r.isSome])) W := by
    intro r hr
    refine exec_v (s := Instr.lookup t (a.eval x) (a.eval k) true) (by unfold execOp; rw [hop]) ?_
    rw [hx, hk]
    cases r with
    | none => simp [Instr.lookup, run_underlying K.u, MapKept.run_getObj_map hb, K.check, hr, K.zero, Result.andThen]
    | some q => simp [Instr.lookup, run_underlying K.u, MapKept.run_getObj_map hb, K.check, hr, Result.andThen]
  have rep : ∀ (n : Int) (b : Bool), RepV P ρ (Xs st ρ X0) W (.tup [(false, [.d (.int .i64) n]), (false, [.d .bool b])]) (.tuple #[.int .i64 n, .bool b]) :=
    fun n b => ⟨[.int .i64 n, .bool b], rfl, .int .i64 n, [.bool b], rfl, ⟨⟨_, rfl, ⟨_, rfl, rfl, rfl⟩⟩, ⟨.bool b, [], rfl, ⟨_, rfl, ⟨_, rfl, rfl, rfl⟩⟩, rfl⟩⟩⟩
  rcases K.find W key es.toList (fun e he => let ⟨k, v, h1, h2, _⟩ := hes e he; ⟨k, v, h1, h2⟩) with hr | ⟨j, e, hr, hj, he⟩
  · exact .plain m (run _ hr) (h2 _ (h1 0 false (fun h => by cases h))) (rep 0 false)
  · obtain ⟨key', val, g1, g2, g3⟩ := hes e (List.mem_of_getElem? hj)
    rw [he] at g1
    injection g1 with g1
    obtain rfl := Kd.fc_inj memoKeyK memoKeyK_flat (by simpa using g1)
    have := run _ hr
    simp only [g2] at this
    exact .plain m this (h2 _ (h1 val true (fun _ => g3))) (rep val true)

theorem sem_mapUpdate (hS : StatOK P S) (hct : CtOK P glb S) (hg : S.glb = glb) (m : Mt P glb Bk X0 w0 st ρ a W) {t : TypeId} {x k v : Operand} (hop : o.op = .mapUpdate t x k v) (h : updS S st t x k v Q) : OpOut P o a W (Fits P glb Bk X0 w0 st ρ a W Q) := by
  unfold updS at h
  obtain ⟨p, hp, h⟩ := optK_ok h
  obtain ⟨xs, key, b, h, hx, hk, hpa, es, clock, hb, hes⟩ := keyS_ok hS hct hg m h
  have K := hS.mp t p hp
  obtain ⟨q, n, h, hv⟩ := oneIK_ok h (ev_ok hS hg m 0 v)
  obtain ⟨hq, hspec, hQ⟩ := chk_iff.1 h
  have hq : q = .i64 := by simpa using hq
  subst hq
  have fin : ∀ (es' : Array MapEntry) (clock' : Nat), (∀ e ∈ es'.toList, ∃ key val, e.key = .agg (memoKeyK.fc key).toArray ∧ e.val = .int .i64 val ∧ memoSpec xs key val) →
      (Instr.mapUpdate t (a.eval x) (a.eval k) (a.eval v)).run P W = .ok () { W with heap := W.heap.setIfInBounds b (.map es' clock') } → OpOut P o a W (Fits P glb Bk X0 w0 st ρ a W Q) := by
    intro es' clock' hes' hrun
    have hlt : b < W.heap.size := (Array.getElem?_eq_some_iff.1 hb).1
    have hother : ∀ j, j ≠ b → (W.heap.setIfInBounds b (.map es' clock'))[j]? = W.heap[j]? := fun j hj => by rw [Array.getElem?_setIfInBounds, if_neg (Ne.symm hj)]
    have hself : (W.heap.setIfInBounds b (.map es' clock'))[b]? = some (.map es' clock') := by rw [Array.getElem?_setIfInBounds, if_pos rfl, if_pos hlt]
    have hbel : BelM W { W with heap := W.heap.setIfInBounds b (.map es' clock') } := by
      refine ⟨rfl, rfl, rfl, by simp, fun j _ hn => hother j (fun h => absurd hpa.1.2.1 (Nat.not_le_of_lt (h ▸ hn hpa.1.2.2 es clock (h ▸ hb)))), fun m' ys hp' hg' => ?_⟩
      by_cases hm : m' = b
      · subst hm
        obtain rfl := hp'.unique hpa
        exact ⟨es', clock', hself, hes'⟩
      · obtain ⟨e1, c1, g1, g2⟩ := hg'
        exact ⟨e1, c1, (hother m' hm).trans g1, g2⟩
    refine .inr (.inl ⟨_, exec_u (s := Instr.mapUpdate t (a.eval x) (a.eval k) (a.eval v)) (by unfold execOp; rw [hop]) hrun, .any, [], ρ, hQ, ρ.le_refl, m.belM hbel, trivial, hbel.size⟩)
  rw [hx, hk, hv] at fin
  rcases K.find W key es.toList (fun e he => let ⟨k, v, h1, h2, _⟩ := hes e he; ⟨k, v, h1, h2⟩) with hr | ⟨j, e, hr, hj, he⟩
  · refine fin (es.push { key := .agg (memoKeyK.fc key).toArray, val := .int .i64 n, born := clock }) (clock + 1) (fun e he => ?_) ?_
    · simp only [Array.toList_push, List.mem_append, List.mem_singleton] at he
      rcases he with he | rfl
      · exact hes e he
      · exact ⟨key, n, rfl, rfl, hspec⟩
    · simp [Instr.mapUpdate, run_underlying K.u, MapKept.run_getObj_map hb, K.check, hr, MapKept.run_setObj_map _ hb, Result.andThen]
  · have hj2 : es[j]? = some e := by simpa using hj
    refine fin (es.modify j fun e => { e with key := .agg (memoKeyK.fc key).toArray, val := .int .i64 n }) clock (fun e' he' => ?_) ?_
    · obtain ⟨i, hi⟩ := List.getElem?_of_mem he'
      rw [Array.getElem?_toList, Array.getElem?_modify] at hi
      by_cases hij : j = i
      · rw [if_pos hij] at hi
        obtain ⟨e0, _, rfl⟩ := Option.map_eq_some_iff.1 hi
        exact ⟨key, n, rfl, rfl, hspec⟩
      · rw [if_neg hij] at hi
        exact hes _ (List.mem_of_getElem? (by rw [Array.getElem?_toList]; exact hi))
    · simp [Instr.mapUpdate, run_underlying K.u, MapKept.run_getObj_map hb, K.check, hr, hj2, he, K.stays, MapKept.run_setObj_map _ hb, Result.andThen]

theorem sem_itm (hS : StatOK P S) (hct : CtOK P glb S) (hg : S.glb = glb) (m : Mt P glb Bk X0 w0 st ρ a W) {f : FuncId} {fi caps : Array Operand} (hop : o.op = .makeFunc (.func f) fi caps) {it : ItM} (hi : S.itm f = some it)
    (h : match fi.toList with
    | [x] => optK (decArg (dec1 S st.look fuel) it.A [ev S st 0 x]) fun q => chk (it.A.flat && q.2.isEmpty && caps.toList.isEmpty) (it.pre q.1 ∧ Q (.mk false [.d (.seq it.E) (it.xs q.1)]) [])
    | _ => False) : OpOut P o a W (Fits P glb Bk X0 w0 st ρ a W Q) := by
  split at h
  case h_2 => exact h.elim
  rename_i x hfi
  obtain ⟨⟨y, ls⟩, hd, h⟩ := optK_ok h
  obtain ⟨hb, hpre, hQ⟩ := chk_iff.1 h
  simp only [Bool.and_eq_true, List.isEmpty_iff] at hb
  obtain ⟨⟨hfl, rfl⟩, hcap⟩ := hb
  have hval : (it.A.sem P).val (Xs st ρ X0) W y (a.eval x) := by
    unfold decArg at hd
    split at hd
    · rename_i ag cs hes
      injection hes with hes _
      split at hd
      · rename_i hk
        split at hd
        · rename_i z l hdd
          cases hd
          have hv := ev_ok hS hg m 0 x
          rw [hes] at hv
          exact Kd.flat_val P it.A hfl (argVal (Z := fun _ => true) (dec1_ok m hct fuel) hk hdd hv (fun l hl => by simp at hl))
        · cases hd
      · cases hd
    · cases hd
  have hseq := hct.itm f it hi _ W y _ m.Xlt m.glbX hpre hval
  refine .plain m (exec_v (s := Instr.makeFunc (.func f) (fi.map a.eval) (caps.map a.eval)) (v := .func (.func f) #[a.eval x] #[]) (by unfold execOp; rw [hop]) ?_) hQ ⟨_, rfl, ⟨_, rfl, rfl, hseq⟩⟩
  have h1 : fi = #[x] := by apply Array.ext'; simpa using hfi
  have h2 : caps = #[] := by apply Array.ext'; simpa using hcap
  subst h1; subst h2
  simp [Instr.makeFunc]
end
end Go.GX
set_option linter.unusedVariables false
namespace Go.GX
variable [Inhabited BaseD]
open Go.RowKit Go.Shelf Go.Proofs

section
variable {P : Program} {glb : Nat → Option GV} {Bk X0 : Nat → Prop} {w0 : World} {st : St} {ρ : Lab} {a : Act} {W W' : World} {S : Stat} {dr : Bool} {lab : Nat} {o : Oper} {Q : Eff}

theorem isMp_ok {look : Nat → Option HE} {v : SV} {F : (l : Nat) → (k : IntKind) → (K : Kd) → List (Int × K.T) → Prop} {p : Prop} (h : isMp look v F p) : (∃ l k K es, v = .mk false [.om l] ∧ look l = some (.mp k K es) ∧ F l k K es) ∨ p := by
  unfold isMp at h
  split at h
  · split at h
    · rename_i l _ k K es hl
      exact .inl ⟨l, k, K, es, rfl, hl, h⟩
    · exact .inr h
  · exact .inr h
theorem mpOf_ok {t : TypeId} {F : TypeId × TypeId → IntKind → TI → Prop} (h : mpOf S t F) : ∃ p k b i, S.mpi t = some p ∧ S.ty p.1 = some ⟨.int k, b⟩ ∧ S.ty p.2 = some i ∧ F p k i := by
  unfold mpOf at h
  obtain ⟨p, hp, h⟩ := optK_ok h
  obtain ⟨q, hq, h⟩ := optK_ok h
  obtain ⟨kd, b⟩ := q
  split at h
  · rename_i k hk
    obtain ⟨i, hi, h⟩ := optK_ok h
    have hk : kd = .int k := hk
    subst hk
    exact ⟨p, k, b, i, hp, hq, hi, h⟩
  · exact h.elim
theorem sem_makeMap (hS : StatOK P S) (m : Mt P glb Bk X0 w0 st ρ a W) (hlab : memL lab st.dom = false) {t : TypeId} (hop : o.op = .makeMap t none) (h : mpOf S t fun _ k i => Q (.mk false [.om lab]) [(lab, some (.mp k i.kd []))]) : OpOut P o a W (Fits P glb Bk X0 w0 st ρ a W Q) := by
  obtain ⟨p, k, b, i, hp, _, _, h⟩ := mpOf_ok h
  have hoff := (hS.mpi t p hp).1
  refine .inl ⟨.map (some W.heap.size), W.alloc (.map #[] 0), exec_v (s := Instr.makeMap t none) (by unfold execOp; rw [hop]; rfl) ?_, ?_⟩
  · simp [Instr.makeMap]
  · refine Fits.new m hlab _ (.map (some W.heap.size)) (below_alloc W _) ?_ ?_ h (fun X hρ => ⟨_, rfl, hρ, _, rfl⟩)
    · intro k' hk
      rw [ownB_mp] at hk
      simp only [ownBlk, Option.some.injEq] at hk
      subst hk
      simp
    · intro _ _
      exact ⟨hoff, W.heap.size, #[], 0, rfl, Nat.zero_le _, Go.heap_alloc_new W _, .nil, rfl, fun j e p hj => by simp at hj⟩

theorem lkE_some {α : Type} : ∀ {es : List (Int × α)} {j : Nat} {p : Int × α}, (es.map (·.1)).Nodup → es[j]? = some p → lkE es p.1 = some p.2
  | [], j, p, _, h => by simp at h
  | q :: es, 0, p, hn, h => by
    have h : q = p := by simpa using h
    subst h
    simp [lkE_eq, lkE0]
  | q :: es, j + 1, p, hn, h => by
    rw [List.map_cons, List.nodup_cons] at hn
    have h : es[j]? = some p := by simpa using h
    have hne : q.1 ≠ p.1 := fun e => hn.1 (e ▸ List.mem_map.2 ⟨p, List.mem_of_getElem? h, rfl⟩)
    have := lkE_some hn.2 h
    rw [lkE_eq] at this ⊢
    unfold lkE0 at this ⊢
    rw [List.find?_cons_of_neg (by simpa using hne)]
    exact this
theorem lkE_none {α : Type} {es : List (Int × α)} {x : Int} (h : ∀ p, p ∈ es → p.1 ≠ x) : lkE es x = none := by
  rw [lkE_eq]
  unfold lkE0
  rw [List.find?_eq_none.2 fun p hp hh => h p hp (by simpa using hh)]; rfl

theorem find_mp {X : Nat → Prop} {q : IntKind} {K : Kd} {es : List (Int × K.T)} {l : List MapEntry} (hm : MapRep P X W q K es l) {kt : TypeId} (hd : P.underlying kt = some (.int q)) (x : Int) :
    ((Instr.findKey kt (.int q x) l).run P W = .ok none W ∧ (∀ p, p ∈ es → p.1 ≠ x)) ∨ ∃ j e p, (Instr.findKey kt (.int q x) l).run P W = .ok (some (j, e.val)) W ∧ l[j]? = some e ∧ es[j]? = some p ∧ p.1 = x ∧ e.key = .int q x ∧ (K.sem P).val X W p.2 e.val := by
  obtain ⟨hnd, hlen, hr⟩ := hm
  have hk : MapKept.IsKey (.int q) (.int q x) := rfl
  have hks : ∀ e, e ∈ l → MapKept.IsKey (.int q) e.key := fun e he => by
    obtain ⟨j, hj⟩ := List.getElem?_of_mem he
    have hlt := (List.getElem?_eq_some_iff.1 hj).1
    have := (hr j e _ hj (List.getElem?_eq_getElem (by omega))).1
    rw [this]; rfl
  rcases MapKept.findNow_spec hk l 0 hks with ⟨h1, h2⟩ | ⟨j, e, h1, h2, h3⟩
  · refine .inl ⟨MapKept.run_findKey hd h1, fun p hp hx => ?_⟩
    obtain ⟨j, hj⟩ := List.getElem?_of_mem hp
    have hlt := (List.getElem?_eq_some_iff.1 hj).1
    have := (hr j l[j] p (List.getElem?_eq_getElem (by omega)) hj).1
    exact h2 _ (List.getElem_mem _) (by rw [this, hx])
  · rw [Nat.zero_add] at h1
    have hlt := (List.getElem?_eq_some_iff.1 h2).1
    have hj : es[j]? = some es[j] := List.getElem?_eq_getElem (by omega)
    obtain ⟨g1, g2⟩ := hr j e _ h2 hj
    refine .inr ⟨j, e, _, MapKept.run_findKey hd h1, h2, hj, ?_, h3, g2⟩
    rw [h3] at g1
    injection g1 with _ g1
    exact g1.symm
theorem mp_at (m : Mt P glb Bk X0 w0 st ρ a W) {l : Nat} {q : IntKind} {K : Kd} {es : List (Int × K.T)} (hl : st.look l = some (.mp q K es)) {v : Value} (hρ : ρ l = some v) :
    ∃ s b arr c, st.hp l = some (.mp q K es, s) ∧ v = .map (some b) ∧ W.heap[b]? = some (.map arr c) ∧ MapRep P (Xs st ρ X0) W q K es arr.toList := by
  obtain ⟨s, hs⟩ := look_some hl
  obtain ⟨v', hv', hok⟩ := m.hps l _ s hs
  rw [hρ] at hv'; cases hv'
  obtain ⟨_, b, arr, c, h1, _, h2, h3⟩ := hok
  exact ⟨s, b, arr, c, hs, h1, h2, h3⟩
theorem repV_flat {K : Kd} (hK : K.isAgg = false) {X : Nat → Prop} {x : K.T} {z : Value} (h : (K.sem P).cells X W x [z]) : RepV P ρ X W (mkv K x) z := by
  have := RepCs.of_cells (ρ := ρ) K h
  show RepV1 P ρ X W K.isAgg (K.fl x) z
  rw [hK]
  cases hf : K.fl x with
  | nil => rw [hf] at this; cases this
  | cons c r =>
    rw [hf] at this
    obtain ⟨v, vs', h1, h2, h3⟩ := this
    injection h1 with h1 h4
    subst h1; subst h4
    cases r with
    | nil => exact ⟨c, rfl, h2⟩
    | cons d r =>
      obtain ⟨_, _, h5, _⟩ := h3
      cases h5
theorem zero_mp (hS : StatOK P S) {t : TypeId} {p : TypeId × TypeId} (hp : S.mpi t = some p) {i : TI} (hi : S.ty p.2 = some i) (hz : i.kd.zok = true) (X : Nat → Prop) :
    ∃ z, (zeroValue p.2).run P W = .ok z W ∧ (i.kd.sem P).cells X W i.kd.dflt [z] := by
  obtain ⟨_, ⟨inf, z, g1, _, _, g4, g5⟩, _⟩ := hS.ty p.2 i hi
  have hz3 := (hS.mpi t p hp).2.2
  refine ⟨z, by simp [zeroValue, typeInfo, g1, g4], ?_⟩
  have := zok_cells (P := P) (W := W) X i.kd hz
  rw [← g5] at this
  unfold notAggZ at hz3
  rw [g1] at hz3
  simp only [g4] at hz3
  cases z <;> first | exact this | cases hz3

theorem sem_lookE (hS : StatOK P S) (hg : S.glb = glb) (m : Mt P glb Bk X0 w0 st ρ a W) {t : TypeId} {x k : Operand} {ok : Bool} (hop : o.op = .lookup t x k ok) {l : Nat} {q : IntKind} {K : Kd} {es : List (Int × K.T)} (hv : ev S st t x = .mk false [.om l]) (hl : st.look l = some (.mp q K es))
    (h : lookE S st t k ok q K es Q) : OpOut P o a W (Fits P glb Bk X0 w0 st ρ a W Q) := by
  have hx := ev_ok hS hg m t x
  rw [hv] at hx
  obtain ⟨c, hc, hx⟩ := hx
  cases hc
  obtain ⟨hρ, b0, hb0⟩ := hx
  obtain ⟨s, b, arr, ck, hs, hbv, hheap, hmr⟩ := mp_at m hl hρ
  unfold lookE at h
  obtain ⟨p, k', bb, i, hp, hk1, hi, h⟩ := mpOf_ok h
  obtain ⟨hcnd, h⟩ := chk_iff.1 h
  simp only [Bool.and_eq_true, beq_iff_eq, Bool.not_eq_true'] at hcnd
  obtain ⟨⟨⟨rfl, hzok⟩, hag⟩, hK⟩ := hcnd
  subst hK
  obtain ⟨q', n, h2, hkey⟩ := oneIK_ok h (ev_ok hS hg m p.1 k)
  obtain ⟨hq, h3⟩ := chk_iff.1 h2
  clear h h2
  have hq : q' = k' := by simpa using hq
  subst hq
  have hd := hS.int p.1 q' bb hk1
  have hu := (hS.mpi t p hp).2.1
  have hck := MapKept.run_checkKey (P := P) (w := W) (k := .int q' n) hd rfl arr.isEmpty 9999
  have runN : ∀ z, (Instr.findKey p.1 (.int q' n) arr.toList).run P W = .ok none W → (zeroValue p.2).run P W = .ok z W → (execOp a.eval o).run P W = .ok (.value (if ok then .tuple #[z, .bool false] else z)) W := by
    intro z hr hz
    refine exec_v (s := Instr.lookup t (a.eval x) (a.eval k) ok) (by unfold execOp; rw [hop]) ?_
    rw [hbv, hkey]
    simp [Instr.lookup, run_underlying hu, MapKept.run_getObj_map hheap, hck, hr, hz, Result.andThen]
  have runS : ∀ j z, (Instr.findKey p.1 (.int q' n) arr.toList).run P W = .ok (some (j, z)) W → (execOp a.eval o).run P W = .ok (.value (if ok then .tuple #[z, .bool true] else z)) W := by
    intro j z hr
    refine exec_v (s := Instr.lookup t (a.eval x) (a.eval k) ok) (by unfold execOp; rw [hop]) ?_
    rw [hbv, hkey]
    simp [Instr.lookup, run_underlying hu, MapKept.run_getObj_map hheap, hck, hr, Result.andThen]
  have fin : ∀ (y : i.kd.T) (z : Value) (bq : Bool), (i.kd.sem P).cells (Xs st ρ X0) W y [z] → lkE es n = (if bq then some y else none) → (bq = false → y = i.kd.dflt) → (execOp a.eval o).run P W = .ok (.value (if ok then .tuple #[z, .bool bq] else z)) W → OpOut P o a W (Fits P glb Bk X0 w0 st ρ a W Q) := by
    intro y z bq hcell hlk hdf hrun
    have e1 : (lkE es n).getD i.kd.dflt = y := by
      rw [hlk]
      cases bq with
      | true => rfl
      | false => rw [hdf rfl]; rfl
    have e2 : (lkE es n).isSome = bq := by rw [hlk]; cases bq <;> rfl
    unfold letE at h3
    rw [e1, e2] at h3
    have hrep := repV_flat (ρ := ρ) hag hcell
    cases ok with
    | false => exact .plain m hrun (h3 _ rfl) hrep
    | true =>
      refine .plain m hrun (h3 _ rfl _ rfl) ⟨[z, .bool bq], rfl, z, [.bool bq], rfl, hrep, .bool bq, [], rfl, ⟨_, rfl, ⟨_, rfl, rfl, rfl⟩⟩, rfl⟩
  rcases find_mp hmr hd n with ⟨hr, hno⟩ | ⟨j, e, p', hr, hj, hpj, hx, hkx, hval⟩
  · obtain ⟨z, hz, hcell⟩ := zero_mp hS hp hi hzok (Xs st ρ X0) (W := W)
    exact fin _ z false hcell (lkE_none hno) (fun _ => rfl) (runN z hr hz)
  · subst hx
    refine fin p'.2 e.val true ?_ (lkE_some hmr.1 hpj) (fun h => by cases h) (runS j e.val hr)
    exact cells_of_val hval hag

theorem upE_new {α : Type} : ∀ {es : List (Int × α)} {x : Int} {v : α}, (∀ p, p ∈ es → p.1 ≠ x) → upE es x v = es ++ [(x, v)]
  | [], _, _, _ => by rw [upE_eq]; rfl
  | p :: es, x, v, h => by
    have := upE_new (v := v) fun q hq => h q (List.mem_cons_of_mem _ hq)
    rw [upE_eq] at this ⊢
    unfold upE0
    rw [if_neg (h p List.mem_cons_self), this]; rfl
theorem upE_set {α : Type} : ∀ {es : List (Int × α)} {j : Nat} {p : Int × α} {v : α}, (es.map (·.1)).Nodup → es[j]? = some p → upE es p.1 v = es.set j (p.1, v)
  | [], j, p, v, _, h => by simp at h
  | q :: es, 0, p, v, _, h => by
    have h : q = p := by simpa using h
    subst h
    simp [upE_eq, upE0]
  | q :: es, j + 1, p, v, hn, h => by
    rw [List.map_cons, List.nodup_cons] at hn
    have h : es[j]? = some p := by simpa using h
    have hne : q.1 ≠ p.1 := fun e => hn.1 (e ▸ List.mem_map.2 ⟨p, List.mem_of_getElem? h, rfl⟩)
    have := upE_set (v := v) hn.2 h
    rw [upE_eq] at this ⊢
    unfold upE0
    rw [if_neg hne, this]; rfl
theorem St.upds_app : ∀ (u : List (Nat × Option HE)) (st : St) (v : List (Nat × Option HE)), st.upds (u ++ v) = (st.upds u).upds v
  | [], _, _ => rfl
  | (l, h) :: r, st, v => St.upds_app r _ v
theorem upds_off : ∀ (u : List (Nat × Option HE)) (st : St) (l : Nat), (∀ q, q ∈ u → q.1 ≠ l) → (st.upds u).hp l = st.hp l
  | [], _, _, _ => rfl
  | (k, h) :: r, st, l, hn => by
    refine (upds_off r _ l fun q hq => hn q (List.mem_cons_of_mem _ hq)).trans ?_
    exact updf_other _ _ (Ne.symm (hn (k, h) List.mem_cons_self))
theorem frz_keys (look : Nat → Option HE) : ∀ (ls : List Nat) q, q ∈ frz look ls → q.1 ∈ ls
  | [], q, h => by cases h
  | l :: r, q, h => by
    unfold frz at h
    split at h
    · rcases List.mem_cons.1 h with rfl | h
      · exact List.mem_cons_self
      · exact List.mem_cons_of_mem _ (frz_keys look r q h)
    · exact List.mem_cons_of_mem _ (frz_keys look r q h)
theorem sem_updE (hS : StatOK P S) (hct : CtOK P glb S) (hg : S.glb = glb) (m : Mt P glb Bk X0 w0 st ρ a W) {t : TypeId} {x k v : Operand} (hop : o.op = .mapUpdate t x k v) {l : Nat} {q : IntKind} {K : Kd} {es : List (Int × K.T)} (hv : ev S st t x = .mk false [.om l]) (hl : st.look l = some (.mp q K es))
    (h : updE S st t k v l q K es Q) : OpOut P o a W (Fits P glb Bk X0 w0 st ρ a W Q) := by
  have hx := ev_ok hS hg m t x
  rw [hv] at hx
  obtain ⟨c, hc, hx⟩ := hx
  cases hc
  obtain ⟨hρ, b0, hb0⟩ := hx
  obtain ⟨s, b, arr, ck, hs, hbv, hheap, hmr⟩ := mp_at m hl hρ
  obtain ⟨p, k', bb, i, hp, hk1, hi, h1⟩ := mpOf_ok h
  clear h
  obtain ⟨hcnd, h2⟩ := chk_iff.1 h1
  clear h1
  simp only [Bool.and_eq_true, beq_iff_eq, Bool.not_eq_true'] at hcnd
  obtain ⟨⟨rfl, hK⟩, hag⟩ := hcnd
  subst hK
  obtain ⟨q', n, h3, hkey⟩ := oneIK_ok h2 (ev_ok hS hg m p.1 k)
  clear h2
  obtain ⟨hq, h4⟩ := chk_iff.1 h3
  clear h3
  have hq : q' = k' := by simpa using hq
  subst hq
  obtain ⟨⟨y, ls⟩, hd0, h5⟩ := optK_ok h4
  clear h4
  obtain ⟨hcl, hQ0⟩ := chk_iff.1 h5
  have hQ := hQ0 _ rfl
  clear hQ0
  clear h5
  simp only [Bool.and_eq_true, Bool.not_eq_true'] at hcl
  obtain ⟨hln, hlm⟩ := hcl
  have hd := hS.int p.1 q' bb hk1
  have hu := (hS.mpi t p hp).2.1
  have hoff := (hS.mpi t p hp).1
  have hck := MapKept.run_checkKey (P := P) (w := W) (k := .int q' n) hd rfl false 9999
  have hval : (i.kd.sem P).val (Xl st ρ X0 fun l' => memL l' ls) W y (a.eval v) := by
    unfold decArg at hd0
    split at hd0
    · rename_i ag cs hes
      injection hes with hes _
      split at hd0
      · rename_i hk
        split at hd0
        · rename_i z l' hdd
          cases hd0
          have hv' := ev_ok hS hg m p.2 v
          rw [hes] at hv'
          exact argVal (Z := fun l' => memL l' ls) (dec1_ok m hct fuel) hk hdd hv' (fun l hl => memL_mem hl)
        · cases hd0
      · cases hd0
    · cases hd0
  obtain ⟨m1, hsub⟩ := m.frz ls hln
  have hne : ∀ z, z ∈ frz st.look ls → z.1 ≠ l := fun z hz e => by
    have := frz_keys st.look ls z hz
    rw [e, ← memL_iff, hlm] at this
    cases this
  have hl1 : (st.upds (frz st.look ls)).hp l = some (.mp q' i.kd es, s) := (upds_off _ _ _ hne).trans hs
  have hlt : b < W.heap.size := (Array.getElem?_eq_some_iff.1 hheap).1
  have fin : ∀ (es' : Array MapEntry) (ck' : Nat), (∀ X W', (∀ z w, (i.kd.sem P).val (Xs st ρ X0) W z w → (i.kd.sem P).val X W' z w) → (i.kd.sem P).val X W' y (a.eval v) → MapRep P X W' q' i.kd (upE es n y) es'.toList) →
      (Instr.mapUpdate t (a.eval x) (a.eval k) (a.eval v)).run P W = .ok () { W with heap := W.heap.setIfInBounds b (.map es' ck') } → OpOut P o a W (Fits P glb Bk X0 w0 st ρ a W Q) := by
    intro es' ck' hrep hrun
    have hown : OwnB ρ (.mp q' i.kd es) (.map (some b)) b := .inl rfl
    have m2 : Mt P glb Bk X0 w0 ((st.upds (frz st.look ls)).upds [(l, some (.mp q' i.kd (upE es n y)))]) ρ a { W with heap := W.heap.setIfInBounds b (.map es' ck') } := by
      refine m1.upd hl1 (hρ.trans (by rw [hbv])) hown rfl _ (fun k hk => hk) ⟨rfl, rfl, rfl, by simp, fun j _ hj => ?_⟩ (fun e => ?_)
      · show (W.heap.setIfInBounds b _)[j]? = _
        rw [Array.getElem?_setIfInBounds, if_neg (fun e => hj (by rw [e]))]
      · refine ⟨hoff, b, es', ck', rfl, Nat.zero_le _, ?_, ?_⟩
        · show (W.heap.setIfInBounds b _)[b]? = _
          rw [Array.getElem?_setIfInBounds, if_pos rfl, if_pos hlt]
        · have e0 : Evo (Xl st ρ X0 fun l' => memL l' ls) W (Xs (st.upds (frz st.look ls)) ρ X0) W := Evo.mono m1.Xlt hsub
          refine hrep _ _ (fun z w hz => ?_) ((Kd.stands P i.kd).val (e0.trans e) hval)
          exact (Kd.stands P i.kd).val ((m.evoZ _).trans (e0.trans e)) hz
    refine .inr (.inl ⟨_, exec_u (s := Instr.mapUpdate t (a.eval x) (a.eval k) (a.eval v)) (by unfold execOp; rw [hop]) hrun, .any, _, ρ, hQ, ρ.le_refl, ?_, trivial, by simp⟩)
    rw [St.upds_app]
    exact m2
  rw [hbv, hkey] at fin
  obtain ⟨hnd, hlen, hr0⟩ := hmr
  rcases find_mp ⟨hnd, hlen, hr0⟩ hd n with ⟨hr, hno⟩ | ⟨j, e, p', hr, hj, hpj, hx, hkx, _⟩
  · refine fin (arr.push { key := .int q' n, val := a.eval v, born := ck }) (ck + 1) (fun X W' hold hnew => ?_) ?_
    · rw [upE_new hno]
      refine ⟨?_, by simp [hlen], fun j en pn hj hp => ?_⟩
      · rw [List.map_append, List.nodup_append]
        refine ⟨hnd, by simp, fun z hz w hw => ?_⟩
        obtain ⟨pp, hpp, rfl⟩ := List.mem_map.1 hz
        have hw : w = n := by simpa using hw
        rw [hw]; exact hno pp hpp
      · rw [Array.toList_push] at hj
        by_cases hjl : j < arr.toList.length
        · rw [List.getElem?_append_left hjl] at hj
          rw [List.getElem?_append_left (by omega)] at hp
          obtain ⟨g1, g2⟩ := hr0 j en pn hj hp
          exact ⟨g1, hold _ _ g2⟩
        · rw [List.getElem?_append_right (by omega)] at hj
          rw [List.getElem?_append_right (by omega)] at hp
          have hj0 : j - arr.toList.length = 0 := by
            have := (List.getElem?_eq_some_iff.1 hj).1
            simp only [List.length_cons, List.length_nil] at this
            omega
          rw [hj0] at hj
          rw [← hlen, hj0] at hp
          cases hj; cases hp
          exact ⟨rfl, hnew⟩
    · simp [Instr.mapUpdate, run_underlying hu, MapKept.run_getObj_map hheap, hck, hr, MapKept.run_setObj_map _ hheap, Result.andThen]
  · have hj2 : arr[j]? = some e := by simpa using hj
    subst hx
    have hst := MapKept.run_keyThatStays (P := P) (w := W) (d := .int q') (k := .int q' p'.1) rfl
    refine fin (arr.modify j fun e => { e with key := .int q' p'.1, val := a.eval v }) ck (fun X W' hold hnew => ?_) ?_
    · rw [upE_set hnd hpj]
      have hjl := (List.getElem?_eq_some_iff.1 hpj).1
      refine ⟨?_, by simp [hlen], fun j' en pn hj' hp' => ?_⟩
      · have : (es.set j (p'.1, y)).map (·.1) = es.map (·.1) := by
          rw [List.map_set]
          refine List.ext_getElem? fun z => ?_
          rw [List.getElem?_set]
          split
          · rename_i hz
            subst hz
            rw [if_pos (by simpa using hjl), List.getElem?_map, hpj]; rfl
          · rfl
        rw [this]; exact hnd
      · rw [Array.getElem?_toList, Array.getElem?_modify] at hj'
        rw [List.getElem?_set] at hp'
        by_cases hjj : j = j'
        · subst hjj
          rw [if_pos rfl, hj2] at hj'
          rw [if_pos rfl, if_pos hjl] at hp'
          cases hj'; cases hp'
          exact ⟨rfl, hnew⟩
        · rw [if_neg hjj] at hj' hp'
          obtain ⟨g1, g2⟩ := hr0 j' en pn (by rw [Array.getElem?_toList]; exact hj') hp'
          exact ⟨g1, hold _ _ g2⟩
    · simp [Instr.mapUpdate, run_underlying hu, MapKept.run_getObj_map hheap, hck, hr, hj2, hkx, hst, MapKept.run_setObj_map _ hheap, Result.andThen]
end
end Go.GX
