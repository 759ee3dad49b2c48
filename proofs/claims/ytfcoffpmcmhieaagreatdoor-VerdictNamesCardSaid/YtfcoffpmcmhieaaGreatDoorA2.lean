/- The abstract interpreter: each operation does what the model does. -/
import Derived.Test.YtfcoffpmcmhieaaGreatDoorA1
set_option linter.unusedVariables false
set_option linter.unusedSimpArgs false
namespace Go.Proofs.YtfcoffpmcmhieaaGreatDoor.AI
variable {P : Program}

/-! ### The model's tables -/
theorem run_underlying {t : TypeId} {d : TypeDesc} (h : P.underlying t = some d) (w : World) : (Go.underlying t).run P w = .ok d w := by
  simp [Go.underlying, h]
theorem run_typeInfo {t : TypeId} {i : TypeInfo} (h : P.info? t = some i) (w : World) : (typeInfo t).run P w = .ok i w := by
  simp [typeInfo, h]
theorem run_sizeOf {t : TypeId} {i : TypeInfo} (h : P.info? t = some i) (w : World) : (sizeOf t).run P w = .ok i.size w := by
  simp [sizeOf, run_typeInfo h]
theorem run_zeroValue {t : TypeId} {i : TypeInfo} {v : Value} (h : P.info? t = some i) (hz : i.zero = some v) (w : World) : (zeroValue t).run P w = .ok v w := by
  simp [zeroValue, run_typeInfo h, hz]
def isAggD : TypeDesc → Bool
  | .struct _ | .array _ _ => true
  | _ => false
theorem run_isAgg {t : TypeId} {d : TypeDesc} (h : P.underlying t = some d) (w : World) : (isAgg t).run P w = .ok (isAggD d) w := by
  unfold isAgg isAggD
  cases d <;> simp [run_underlying h]

theorem tyk_scalar {t : TypeId} (h : tyk P t = .scalar) : ∃ d i, P.underlying t = some d ∧ isAggD d = false ∧ P.info? t = some i ∧ i.size = 1 := by
  unfold tyk at h
  split at h
  · split at h <;> cases h
  · split at h <;> cases h
  · rename_i d h1 h2 hd
    split at h
    · rename_i i hi
      split at h
      · rename_i hs
        refine ⟨d, i, hd, ?_, hi, hs⟩
        cases d <;> first | rfl | exact absurd rfl (h1 _) | exact absurd rfl (h2 _ _)
      · cases h
    · cases h
  · cases h
theorem tyk_agg {t : TypeId} {n : Nat} (h : tyk P t = .agg n) : ∃ d i, P.underlying t = some d ∧ isAggD d = true ∧ P.info? t = some i ∧ i.size = n := by
  unfold tyk at h
  split at h
  · rename_i hd
    split at h
    · rename_i i hi; cases h; exact ⟨_, i, hd, rfl, hi, rfl⟩
    · cases h
  · rename_i hd
    split at h
    · rename_i i hi; cases h; exact ⟨_, i, hd, rfl, hi, rfl⟩
    · cases h
  · split at h
    · split at h <;> cases h
    · cases h
  · cases h
theorem fld_some {s : TypeId} {f : Nat} {p : Nat × Nat} (h : fld P s f = some p) : ∃ fields x i, P.underlying s = some (.struct fields) ∧ fields[f]? = some x ∧ P.info? x.type = some i ∧ p = (x.offset, i.size) := by
  unfold fld at h
  split at h
  · rename_i fields hd
    simp only [Option.bind_eq_some_iff, Option.map_eq_some_iff] at h
    obtain ⟨x, hx, i, hi, rfl⟩ := h
    exact ⟨fields, x, i, hd, hx, hi, rfl⟩
  · cases h
theorem sliceElem_some {t : TypeId} {e : TypeId × Nat × Nat} (h : sliceElem P t = some e) : ∃ i, P.underlying t = some (.slice e.1) ∧ P.info? e.1 = some i ∧ i.size = e.2.1 ∧ i.bytes = e.2.2 := by
  unfold sliceElem at h
  split at h
  · rename_i e' hd
    simp only [Option.map_eq_some_iff] at h
    obtain ⟨i, hi, rfl⟩ := h
    exact ⟨i, hd, hi, rfl, rfl⟩
  · cases h
theorem arrayElem_some {t : TypeId} {e : Nat × TypeId × Nat} (h : arrayElem P t = some e) : ∃ i, P.underlying t = some (.array e.1 e.2.1) ∧ P.info? e.2.1 = some i ∧ i.size = e.2.2 := by
  unfold arrayElem at h
  split at h
  · rename_i n e' hd
    simp only [Option.map_eq_some_iff] at h
    obtain ⟨i, hi, rfl⟩ := h
    exact ⟨i, hd, hi, rfl⟩
  · cases h
theorem mapKind_some {t : TypeId} {e : TypeId × TypeId} (h : mapKind P t = some e) : P.underlying t = some (.map e.1 e.2) := by
  unfold mapKind at h
  split at h
  · rename_i k e' hd; cases h; exact hd
  · cases h
theorem zeroOf_some {t : TypeId} {a : AV} (h : zeroOf P t = some a) : ∃ i v, P.info? t = some i ∧ i.zero = some v ∧ a = ofV v := by
  unfold zeroOf at h
  simp only [Option.map_eq_some_iff, Option.bind_eq_some_iff] at h
  obtain ⟨v, ⟨i, hi, hz⟩, rfl⟩ := h
  exact ⟨i, v, hi, hz, rfl⟩
theorem zeroCellsOf_some {t : TypeId} {z : List AV} (h : zeroCellsOf P t = some z) : ∃ i v, P.info? t = some i ∧ i.zero = some v ∧ z = (ofV v).cells := by
  unfold zeroCellsOf at h
  simp only [Option.map_eq_some_iff, Option.bind_eq_some_iff] at h
  obtain ⟨v, ⟨i, hi, hz⟩, rfl⟩ := h
  exact ⟨i, v, hi, hz, rfl⟩

/-! ### The situation ahead of an operation, and what may come of it -/
structure Sit (ρ : Ren) (h : H) (nx : Nat) (w : World) (E : Nat → Option Obj) (n : Nat) (r : R) (a : Act) : Prop where
  hs : HS ρ h nx w.heap E
  rr : RR ρ n r a.tmps

section
variable {ρ : Ren} {h : H} {nx : Nat} {w : World} {E : Nat → Option Obj} {n : Nat} {r : R} {a : Act}

theorem ev_ok (s : Sit ρ h nx w E n r a) (o : Operand) : VR ρ (ev h r o) (a.eval o) := by
  cases o with
  | tmp t => exact s.rr.val t
  | const v => exact VR_ofV ρ v
  | global g =>
    show VR ρ (evGlobal g h r) _
    unfold evGlobal
    split
    · rename_i hg
      split
      · simp only [VR]
      · rename_i hd
        obtain ⟨L, hL⟩ := s.hs.glive g hg hd
        obtain ⟨h1, h2⟩ := s.hs.glob g L hg hL
        simp only [VR]
        exact ⟨L, hL, by simp [Act.eval, h1, h2]⟩
    · simp only [VR]
  | func f =>
    show VR ρ (.func f []) _
    simp only [VR]
    exact ⟨#[], rfl, VRs_nil.2 rfl⟩

theorem evs_ok (s : Sit ρ h nx w E n r a) : ∀ l : List Operand, VRs ρ (evs h r l) (l.map a.eval)
  | [] => VRs_nil.2 rfl
  | o :: l => VRs_cons_cons.2 ⟨ev_ok s o, evs_ok s l⟩
theorem evs_ok' (s : Sit ρ h nx w E n r a) (l : Array Operand) : VRs ρ (evs h r l.toList) (l.map a.eval).toList := by
  simpa using evs_ok s l.toList
end

/-- The heap is left alone. -/
def QuietRes (P : Program) (s : Sem Next) (ρ : Ren) (h : H) (nx : Nat) (w : World) (k : K) : Prop :=
  ∃ v cv, k (.val v h nx) = true ∧ s.run P w = .ok (.value cv) w ∧ VR ρ v cv
/-- One block is made. -/
def MakeRes (P : Program) (s : Sem Next) (ρ : Ren) (h : H) (nx : Nat) (w : World) (k : K) : Prop :=
  ∃ v cv blk o L w', k (.val v (h.set nx blk) (nx + 1)) = true ∧ s.run P w = .ok (.value cv) w' ∧ (w'.heap = w.heap.push o ∧ w'.os = w.os ∧ w'.output = w.output) ∧ L.blk = w.heap.size ∧
    VR (ρ.put nx L) v cv ∧ BR ρ h blk L (w.heap.push o) ∧ nx < 3583
/-- The heap is turned. -/
def ActRes (P : Program) (s : Sem Next) (ρ : Ren) (nx : Nat) (w : World) (E : Nat → Option Obj) (k : K) : Prop :=
  ∃ v h' nx' cv nxt w' ρ', k (.val v h' nx') = true ∧ s.run P w = .ok nxt w' ∧ (nxt = .value cv ∨ nxt = .skip ∧ cv = undef) ∧ ρ.ext nx ρ' ∧ nx ≤ nx' ∧ SO w w' ∧ VR ρ' v cv ∧ HS ρ' h' nx' w'.heap E

theorem QuietRes.act {s : Sem Next} {ρ : Ren} {h : H} {nx : Nat} {w : World} {E : Nat → Option Obj} {k : K} (hs : HS ρ h nx w.heap E) (q : QuietRes P s ρ h nx w k) : ActRes P s ρ nx w E k := by
  obtain ⟨v, cv, h1, h2, h3⟩ := q
  exact ⟨v, h, nx, cv, .value cv, w, ρ, h1, h2, .inl rfl, Ren.ext_refl nx ρ, Nat.le_refl nx, SO.refl w, h3, hs⟩
theorem MakeRes.act {s : Sem Next} {ρ : Ren} {h : H} {nx : Nat} {w : World} {E : Nat → Option Obj} {k : K} (hs : HS ρ h nx w.heap E) (q : MakeRes P s ρ h nx w k) : ActRes P s ρ nx w E k := by
  obtain ⟨v, cv, blk, o, L, w', h1, h2, h3, h4, h5, h6, h7⟩ := q
  refine ⟨v, _, _, cv, .value cv, w', ρ.put nx L, h1, h2, .inl rfl, Ren.ext_put L hs.fresh, Nat.le_succ nx, SO.push h3.1 h3.2.1 h3.2.2, h5, by
    rw [h3.1]
    refine hs.new h7 h4 fun _ => (BR.mono (Ren.le_put L hs.fresh) h6).other rfl fun m ver left cur Lm l v hb _ hg => ?_
    by_cases e : m = nx
    · subst e; rw [H.get_set_same, hb] at hg; cases hg
    · rw [H.get_set_ne _ _ (by omega) e] at hg; exact ⟨⟨l, hg⟩, rfl⟩⟩

/-! ### Reading cells -/
theorem Addr.add_mk (b o i : Nat) : (⟨b, o, none⟩ : Addr).add i = ⟨b, o + i, none⟩ := by
  unfold Addr.add
  split
  · rename_i h; subst h; rfl
  · rfl

theorem cell_of_heap {w : World} {b o : Nat} {c : Array Value} {e : TypeId} {fr : Nat × Nat} (h : w.heap[b]? = some (.cells c e fr)) : w.cell? ⟨b, o, none⟩ = c[o]? := by
  unfold World.cell?
  simp [h]
theorem frozen_of_heap {w : World} {b o : Nat} {c : Array Value} {e : TypeId} {fr : Nat × Nat} (h : w.heap[b]? = some (.cells c e fr)) : w.frozen? ⟨b, o, none⟩ = (decide (fr.1 ≤ o) && decide (o < fr.2)) := by
  unfold World.frozen?
  simp only [h]

theorem run_loadCellsFrom {w : World} {b o : Nat} : ∀ (vs : List Value) (i : Nat) (acc : Array Value), (∀ (j : Nat) (v : Value), vs[j]? = some v → w.cell? ⟨b, o + (i + j), none⟩ = some v) →
    (loadCellsFrom ⟨b, o, none⟩ i vs.length acc).run P w = .ok (acc ++ vs.toArray) w
  | [], i, acc, _ => by simp [loadCellsFrom]
  | v :: vs, i, acc, h => by
    have h0 := h 0 v rfl
    simp only [Nat.add_zero] at h0
    simp only [List.length_cons, loadCellsFrom, Addr.add_mk, Sem.run_bind, run_load, h0, Result.andThen_ok]
    rw [run_loadCellsFrom vs (i + 1) (acc.push v) fun j u hj => by
      have := h (j + 1) u (by simpa using hj)
      rw [show i + 1 + j = i + (j + 1) from by omega]; exact this]
    simp
theorem run_loadCells {w : World} {b o : Nat} (vs : List Value) (h : ∀ (j : Nat) (v : Value), vs[j]? = some v → w.cell? ⟨b, o + j, none⟩ = some v) :
    (loadCells ⟨b, o, none⟩ vs.length).run P w = .ok vs.toArray w := by
  unfold loadCells
  rw [run_loadCellsFrom vs 0 #[] fun j v hj => by rw [Nat.zero_add]; exact h j v hj]
  simp

section
variable {ρ : Ren} {h : H} {nx : Nat} {w : World} {E : Nat → Option Obj}

/-- A known cell. -/
theorem HS.cell (s : HS ρ h nx w.heap E) {b : Nat} {L : Loc} {m : Nat} {t : T AV} {z : List AV} (hb : h.get b = .cells m t z) (hL : ρ b = some L) {i : Nat} (hi : i < m) :
    ∃ a, cellOf t z i = some a ∧ ∃ v, w.cell? ⟨L.blk, L.off + i, none⟩ = some v ∧ VR ρ a v ∧ flatV v := by
  obtain ⟨K, hK, hB, _⟩ := s.liveL (by rw [hb]; simp) hL
  rw [hL] at hK; cases hK
  rw [hb] at hB
  obtain ⟨c, e, fr, h1, _, _, _, h5⟩ := hB
  obtain ⟨a, ha, v, hv, hr, hf⟩ := h5 i hi
  exact ⟨a, ha, v, by rw [cell_of_heap h1]; exact hv, hr, hf⟩


/-- Known cells, in a row. -/
theorem HS.cells (s : HS ρ h nx w.heap E) {b : Nat} {L : Loc} {m : Nat} {t : T AV} {z : List AV} (hb : h.get b = .cells m t z) (hL : ρ b = some L) {o q : Nat} {l : List AV}
    (hq : q = 0 ∨ o + q ≤ m) (hl : l.length = q) (hc : ∀ i, i < q → cellOf t z (o + i) = l[i]?) :
    ∃ vs : List Value, vs.length = q ∧ VRs ρ l vs ∧ (∀ (j : Nat) (v : Value), vs[j]? = some v → w.cell? ⟨L.blk, L.off + o + j, none⟩ = some v) ∧ ∀ v ∈ vs, flatV v := by
  induction q generalizing o l with
  | zero =>
    have : l = [] := List.eq_nil_of_length_eq_zero hl
    subst this
    exact ⟨[], rfl, VRs_nil.2 rfl, fun j v hj => by simp at hj, fun v hv => by cases hv⟩
  | succ q ih =>
    match l, hl with
    | x :: l, hl =>
      have hq' : o + (q + 1) ≤ m := hq.resolve_left (by omega)
      obtain ⟨a, ha, v, hv, hr, hf⟩ := s.cell hb hL (i := o) (by omega)
      have h0 := hc 0 (by omega)
      simp only [Nat.add_zero, List.getElem?_cons_zero] at h0
      rw [ha] at h0; cases h0
      obtain ⟨vs, h1, h2, h3, h4⟩ := ih (o := o + 1) (l := l) (by right; omega) (by simpa using hl) fun i hi => by
        have := hc (i + 1) (by omega)
        rw [show o + 1 + i = o + (i + 1) from by omega, this]; rfl
      refine ⟨v :: vs, by simp [h1], VRs_cons_cons.2 ⟨hr, h2⟩, fun j u hj => ?_, fun u hu => ?_⟩
      · cases j with
        | zero => simp at hj; subst hj; simpa using hv
        | succ j =>
          have := h3 j u (by simpa using hj)
          rw [show L.off + o + (j + 1) = L.off + (o + 1) + j from by omega]; exact this
      · cases hu with
        | head => exact hf
        | tail _ hu => exact h4 u hu

theorem loadK_ok (s : HS ρ h nx w.heap E) {t : TypeId} {b o : Nat} {L : Loc} (hL : ρ b = some L) {k : AV → Bool} (hk : loadK P h t b o k = true) :
    ∃ a v, k a = true ∧ (loadVar t ⟨L.blk, L.off + o, none⟩).run P w = .ok v w ∧ VR ρ a v := by
  unfold loadK at hk
  cases hty : tyk P t with
  | no => rw [hty] at hk; cases hk
  | scalar =>
    rw [hty] at hk
    obtain ⟨m, tt, z, hb, hk⟩ := Blk.onCells_true (show (h.get b).onCells (cellAt1 o k) = true from hk)
    obtain ⟨hlt, a, ha, hk⟩ := cellAt_true (show cellAt m tt z o k = true from hk)
    obtain ⟨a', ha', v, hv, hr, _⟩ := s.cell hb hL hlt
    rw [ha] at ha'; cases ha'
    obtain ⟨d, i, hd, hagg, _⟩ := tyk_scalar hty
    exact ⟨a, v, hk, by simp [loadVar, run_isAgg hd, hagg, hv], hr⟩
  | agg q =>
    rw [hty] at hk
    obtain ⟨m, tt, z, hb, hk⟩ := Blk.onCells_true (show (h.get b).onCells (fun n t z => cellsAt n t z o q fun l => k (.agg l)) = true from hk)
    obtain ⟨hq, l, hl, hc, hk⟩ := cellsAt_true hk
    obtain ⟨vs, h1, h2, h3, _⟩ := s.cells hb hL hq hl hc
    obtain ⟨d, i, hd, hagg, hi, hsz⟩ := tyk_agg hty
    refine ⟨.agg l, .agg vs.toArray, hk, ?_, by simp only [VR]; exact ⟨vs.toArray, rfl, by simpa using h2⟩⟩
    have := run_loadCells (P := P) vs h3
    rw [h1] at this
    simp [loadVar, run_isAgg hd, hagg, run_sizeOf hi, hsz, this]

/-! ### Writing cells -/
theorem heap_setCell {w : World} {b o : Nat} {v : Value} {c : Array Value} {e : TypeId} {fr : Nat × Nat} (h : w.heap[b]? = some (.cells c e fr)) :
    (w.setCell ⟨b, o, none⟩ v).heap[b]? = some (.cells (c.setIfInBounds o v) e fr) ∧ (w.setCell ⟨b, o, none⟩ v).heap.size = w.heap.size ∧
    ∀ j, j ≠ b → (w.setCell ⟨b, o, none⟩ v).heap[j]? = w.heap[j]? := by
  unfold World.setCell
  refine ⟨?_, by simp, fun j hj => ?_⟩
  · simp [Array.getElem?_modify, h]
  · simp [Array.getElem?_modify, Ne.symm hj]

theorem flat_oneCell {v : Value} (h : flatV v) : v.oneCell' = true := by cases v <;> first | rfl | exact h.elim

/-- Cells laid over a row. -/
def laid (c : Array Value) : List Value → Nat → Array Value
  | [], _ => c
  | v :: l, o => laid (c.setIfInBounds o v) l (o + 1)
theorem laid_size : ∀ (l : List Value) (c : Array Value) (o : Nat), (laid c l o).size = c.size
  | [], _, _ => rfl
  | v :: l, c, o => by show (laid _ l (o + 1)).size = _; rw [laid_size]; simp
theorem laid_get : ∀ (l : List Value) (c : Array Value) (o j : Nat), (laid c l o)[j]? = if o ≤ j ∧ j < o + l.length ∧ j < c.size then l[j - o]? else c[j]?
  | [], c, o, j => by rw [if_neg (by simp; omega)]; rfl
  | v :: l, c, o, j => by
    show (laid (c.setIfInBounds o v) l (o + 1))[j]? = _
    rw [laid_get l _ (o + 1) j]
    simp only [Array.size_setIfInBounds, List.length_cons]
    by_cases h : o + 1 ≤ j ∧ j < o + 1 + l.length ∧ j < c.size
    · rw [if_pos h, if_pos (by omega)]
      have : j - o = (j - (o + 1)) + 1 := by omega
      rw [this]; rfl
    · rw [if_neg h]
      by_cases e : j = o
      · subst e
        by_cases hlt : j < c.size
        · rw [if_pos (by omega)]; simp [hlt]
        · rw [if_neg (by omega)]; simp [hlt]
      · rw [if_neg (by omega)]
        simp [Array.getElem?_setIfInBounds_ne (Ne.symm e)]

theorem run_storeCells : ∀ (vs : List Value) (i : Nat) (w : World) {b o : Nat} {c : Array Value} {e : TypeId} {fr : Nat × Nat}, w.heap[b]? = some (.cells c e fr) →
    (∀ o, o < c.size → ¬ (fr.1 ≤ o ∧ o < fr.2)) → (∀ v ∈ vs, flatV v) → o + i + vs.length ≤ c.size →
    ∃ w', (storeCells ⟨b, o, none⟩ vs i).run P w = .ok () w' ∧ w'.heap[b]? = some (.cells (laid c vs (o + i)) e fr) ∧ w'.heap.size = w.heap.size ∧ (∀ j, j ≠ b → w'.heap[j]? = w.heap[j]?) ∧ w'.os = w.os ∧ w'.output = w.output
  | [], i, w, b, o, c, e, fr, h, _, _, _ => ⟨w, by simp [storeCells], h, rfl, fun _ _ => rfl, rfl, rfl⟩
  | v :: vs, i, w, b, o, c, e, fr, h, hf, hv, hlt => by
    simp only [List.length_cons] at hlt
    have hc : w.cell? ⟨b, o + i, none⟩ = some c[o + i] := by rw [cell_of_heap h]; exact Array.getElem?_eq_getElem (by omega)
    have hz : w.frozen? ⟨b, o + i, none⟩ = false := by
      rw [frozen_of_heap h]
      have := hf (o + i) (by omega)
      simp only [Bool.and_eq_false_iff, decide_eq_false_iff_not]
      by_cases h1 : fr.1 ≤ o + i
      · exact .inr fun h2 => this ⟨h1, h2⟩
      · exact .inl h1
    obtain ⟨h1, h2, h3⟩ := heap_setCell (w := w) (o := o + i) (v := v) h
    obtain ⟨w', g1, g2, g3, g4, g5, g6⟩ := run_storeCells vs (i + 1) (w.setCell ⟨b, o + i, none⟩ v) (o := o) h1 (by simpa using hf) (fun u hu => hv u (List.mem_cons_of_mem _ hu)) (by simp only [Array.size_setIfInBounds]; omega)
    refine ⟨w', ?_, g2, by rw [g3, h2], fun j hj => by rw [g4 j hj, h3 j hj], g5, g6⟩
    simp only [storeCells, Addr.add_mk, Sem.run_bind, run_store P w _ v .plain (flat_oneCell (hv v (List.mem_cons_self ..))), hc, hz, Bool.false_eq_true, if_false, Result.andThen_ok]
    exact g1

/-- A row of a live block is written. -/
theorem HS.write (s : HS ρ h nx w.heap E) {b : Nat} {L : Loc} {m m' : Nat} {t t' : T AV} {z : List AV} (hb : h.get b = .cells m t z) (hL : ρ b = some L) {o : Nat} {l : List AV} {vs : List Value}
    (hv : VRs ρ l vs) (hf : ∀ v ∈ vs, flatV v) (hsz : L.off + o + l.length ≤ L.size) (hm : m' ≤ max m (o + l.length)) (hm2 : o ≤ m) (ht : t' = setCells t l o) :
    ∃ w', (storeCells ⟨L.blk, L.off + o, none⟩ vs 0).run P w = .ok () w' ∧ HS ρ (h.set b (.cells m' t' z)) nx w'.heap E ∧ SO w w' := by
  obtain ⟨K, hK, hB, _⟩ := s.liveL (by rw [hb]; simp) hL
  rw [hL] at hK; cases hK
  rw [hb] at hB
  obtain ⟨c, e, fr, h1, h2, h3, h4, h5⟩ := hB
  have hlen := hv.length
  obtain ⟨w', g1, g2, g3, g4, g5, g6⟩ := run_storeCells (P := P) vs 0 w (o := L.off + o) h1 h4 hf (by omega)
  refine ⟨w', g1, ?_, SO.one h1 g2 (laid_size _ _ _) g4 g5 g6⟩
  refine s.turn (by rw [hb]; simp) hL g3 g4 (fun _ => ?_) fun j m ver left cur Lj l v _ _ _ hb => by cases hb
  refine ⟨_, e, fr, g2, by rw [laid_size]; exact h2, by rw [laid_size]; omega, by rw [laid_size]; exact h4, fun i hi => ?_⟩
  subst ht
  have hcell : cellOf (setCells t l o) z i = if o ≤ i ∧ i < o + l.length then l[i - o]? else cellOf t z i := by
    unfold cellOf
    rw [get_setCells]
    by_cases hc : o ≤ i ∧ i < o + l.length
    · rw [if_pos hc, if_pos hc]
      have : i - o < l.length := by omega
      rw [List.getElem?_eq_getElem this]
    · rw [if_neg hc, if_neg hc]
  rw [hcell, laid_get]
  by_cases hc : o ≤ i ∧ i < o + l.length
  · rw [if_pos hc, if_pos (by omega)]
    have hlt : i - o < l.length := by omega
    obtain ⟨v, hv', hr⟩ := hv.get (i - o) l[i - o] (List.getElem?_eq_getElem hlt)
    refine ⟨l[i - o], List.getElem?_eq_getElem hlt, v, ?_, hr, hf v (List.mem_of_getElem? hv')⟩
    rw [show L.off + i - (L.off + o + 0) = i - o from by omega]; exact hv'
  · rw [if_neg hc, if_neg (by omega)]
    obtain ⟨a, ha, v, hv', hr⟩ := h5 i (by omega)
    exact ⟨a, ha, v, hv', hr⟩

theorem flats_of_allOne : ∀ {l : List AV} {vs : List Value}, VRs ρ l vs → AV.allOne l = true → ∀ v ∈ vs, flatV v
  | [], vs, hv, _ => by rw [VRs_nil] at hv; subst hv; intro v h; cases h
  | a :: l, vs, hv, h1 => by
    obtain ⟨v, r, rfl, h2, h3⟩ := VRs_cons.1 hv
    simp only [AV.allOne, List.all_cons, Bool.and_eq_true] at h1
    intro u hu
    cases hu with
    | head => exact h2.flat h1.1
    | tail _ hu => exact flats_of_allOne h3 h1.2 u hu

theorem storeK_ok (s : HS ρ h nx w.heap E) {t : TypeId} {b o : Nat} {L : Loc} (hL : ρ b = some L) {a : AV} {v : Value} (hv : VR ρ a v) {k : H → Bool} (hk : storeK P h t a k b o = true) :
    ∃ h' w', k h' = true ∧ (storeVar t ⟨L.blk, L.off + o, none⟩ v).run P w = .ok () w' ∧ HS ρ h' nx w'.heap E ∧ SO w w' := by
  unfold storeK at hk
  cases hty : tyk P t with
  | no => rw [hty] at hk; cases hk
  | scalar =>
    rw [hty] at hk
    obtain ⟨m, tt, z, hb, hk⟩ := Blk.onCells_true (show (h.get b).onCells (store1a h b o a k) = true from hk)
    obtain ⟨hlt, hk⟩ := onTrue_true (show onTrue (Nat.blt o m) (onTrue a.oneCell (h.setK b (.cells m (tt.set a o) z) k)) = true from hk)
    obtain ⟨h1, hk⟩ := onTrue_true hk
    rw [H.setK_eq] at hk
    have hlt' : o < m := by simpa [Nat.blt_eq] using hlt
    obtain ⟨d, i, hd, hagg, hi, hsz⟩ := tyk_scalar hty
    have hf := hv.flat h1
    obtain ⟨K, hK, hB, _⟩ := s.liveL (by rw [hb]; simp) hL
    rw [hL] at hK; cases hK
    rw [hb] at hB
    obtain ⟨c, e, fr, g1, g2, g3, _⟩ := hB
    obtain ⟨w', e1, e2, e3⟩ := s.write (P := P) hb hL (o := o) (l := [a]) (vs := [v]) (t' := tt.set a o) (m' := m) (VRs_cons_cons.2 ⟨hv, VRs_nil.2 rfl⟩) (by simpa using hf) (by simp; omega) (by omega) (by omega) rfl
    refine ⟨_, w', hk, ?_, e2, e3⟩
    have hcs : v.cells = #[v] := by cases v <;> first | rfl | exact hf.elim
    simp [storeVar, run_sizeOf hi, hsz, hcs, e1]
  | agg q =>
    rw [hty] at hk
    have hk' : storeN q h b o a k = true := hk
    unfold storeN at hk'
    obtain ⟨m, tt, z, hb, hk⟩ := Blk.onCells_true hk'
    cases a with
    | agg l =>
      obtain ⟨hc, hk⟩ := onTrue_true hk
      simp only [Bool.and_eq_true, beq_iff_eq, decide_eq_true_eq] at hc
      obtain ⟨⟨hl, hle⟩, hone⟩ := hc
      rw [H.setK_eq] at hk
      obtain ⟨d, i, hd, hagg, hi, hsz⟩ := tyk_agg hty
      simp only [VR] at hv
      obtain ⟨cs, rfl, hv⟩ := hv
      obtain ⟨K, hK, hB, _⟩ := s.liveL (by rw [hb]; simp) hL
      rw [hL] at hK; cases hK
      rw [hb] at hB
      obtain ⟨c, e, fr, g1, g2, g3, _⟩ := hB
      obtain ⟨w', e1, e2, e3⟩ := s.write (P := P) hb hL (o := o) (t' := setCells tt l o) (m' := m) hv (flats_of_allOne hv hone) (by omega) (by omega) (by omega) rfl
      refine ⟨_, w', hk, ?_, e2, e3⟩
      have hcs : cs.size = q := by have := hv.length; simp at this; omega
      simp [storeVar, run_sizeOf hi, hsz, Value.cells, hcs, e1]
    | _ => cases hk
end

end Go.Proofs.YtfcoffpmcmhieaaGreatDoor.AI
namespace Go.Proofs.YtfcoffpmcmhieaaGreatDoor.AI
variable {P : Program}

theorem run_v {s : Sem Value} {w w' : World} {v : Value} (h : s.run P w = .ok v w') : (do let x ← s; pure (Next.value x) : Sem Next).run P w = .ok (.value v) w' := by
  simp [h]
theorem run_u {s : Sem Unit} {w w' : World} (h : s.run P w = .ok () w') : (do s; pure Next.skip : Sem Next).run P w = .ok .skip w' := by
  simp [h]

section
variable {ρ : Ren} {h : H} {nx : Nat} {w : World} {E : Nat → Option Obj} {n : Nat} {r : R} {a : Act} {k : K}

theorem opMove_ok (s : Sit ρ h nx w E n r a) {x : Operand} (hk : opMove x P r h nx k = true) : QuietRes P (pure (.value (a.eval x))) ρ h nx w k :=
  ⟨_, _, hk, rfl, ev_ok s x⟩

theorem opPick_ok (s : Sit ρ h nx w E n r a) {c x y : Operand} (hk : opPick c x y P r h nx k = true) :
    QuietRes P (do pure (.value (if ← asBool (a.eval c) then a.eval x else a.eval y))) ρ h nx w k := by
  obtain ⟨t, ht, hk⟩ := AV.onBool_true (show (ev h r c).onBool (pick2 x y r h nx k) = true from hk)
  have hc := ev_ok s c
  rw [ht] at hc
  simp only [VR] at hc
  refine ⟨_, a.eval (if t then x else y), hk, ?_, ?_⟩
  · simp only [hc, asBool]
    cases t <;> rfl
  · cases t
    · exact ev_ok s y
    · exact ev_ok s x

/-! ### New blocks -/
theorem newB_true {v : AV} {b : Blk} (hk : newB v b h nx k = true) : nx < 3583 ∧ k (.val v (h.set nx b) (nx + 1)) = true := by
  obtain ⟨h1, h2⟩ := onTrue_true (show onTrue (Nat.blt nx 3583) (h.setK nx b (newN v k nx)) = true from hk)
  rw [H.setK_eq] at h2
  unfold newN at h2
  rw [forceN_eq] at h2
  exact ⟨by simpa [Nat.blt_eq] using h1, h2⟩

theorem BR_new {h : H} {m : Nat} {t : T AV} {z : List AV} {c : Array Value} {e : TypeId} {fr : Nat × Nat} {hp : Array Obj} {L : Loc} {l : List AV} {vs : List Value}
    (hL : L.blk = hp.size) (ho : L.off = 0) (hs : L.size = c.size) (hm : m ≤ c.size) (hfr : ∀ o, o < c.size → ¬ (fr.1 ≤ o ∧ o < fr.2)) (hv : VRs ρ l vs) (hf : ∀ v ∈ vs, flatV v) (hl : m ≤ l.length)
    (h1 : ∀ i, i < m → cellOf t z i = l[i]?) (h2 : ∀ i, i < m → c[i]? = vs[i]?) : BR ρ h (.cells m t z) L (hp.push (.cells c e fr)) := by
  refine ⟨c, e, fr, by rw [hL]; simp, hs.symm, by omega, hfr, fun i hi => ?_⟩
  have hlt : i < l.length := by omega
  obtain ⟨v, hv', hr⟩ := hv.get i l[i] (List.getElem?_eq_getElem hlt)
  exact ⟨l[i], by rw [h1 i hi, List.getElem?_eq_getElem hlt], v, by rw [ho, Nat.zero_add, h2 i hi]; exact hv', hr, hf v (List.mem_of_getElem? hv')⟩

theorem cellOf_ofList (l z : List AV) {i : Nat} (hi : i < l.length) : cellOf (T.ofList l) z i = l[i]? := by
  unfold cellOf
  rw [T.get_ofList, List.getElem?_eq_getElem hi]
theorem cellOf_leaf (z : List AV) {i : Nat} (hi : i < z.length) : cellOf .leaf z i = z[i]? := by
  unfold cellOf
  rw [T.get_leaf]
  simp only [Nat.mod_eq_of_lt hi]

theorem opAlloc_ok (s : Sit ρ h nx w E n r a) {t : TypeId} (hk : opAlloc t P r h nx k = true) :
    MakeRes P (do pure (.value (← Instr.alloc t true (.tuple #[])))) ρ h nx w k := by
  obtain ⟨z, hz, hk⟩ := onSome_true (show onSome (zeroCellsOf P t) (alloc2 h nx k) = true from hk)
  obtain ⟨i, v, hi, hv, rfl⟩ := zeroCellsOf_some hz
  obtain ⟨h1, hk⟩ := onTrue_true (show onTrue _ _ = true from hk)
  obtain ⟨hlt, hk⟩ := newB_true hk
  have hc := VR.cells (VR_ofV ρ v) h1
  have hlen := hc.length
  simp only [Array.length_toList] at hlen
  refine ⟨.ptr nx 0, .pointer (some ⟨w.heap.size, 0, none⟩), _, .cells v.cells t, ⟨w.heap.size, 0, v.cells.size⟩, { w with heap := w.heap.push (.cells v.cells t) }, hk, ?_, ⟨rfl, rfl, rfl⟩, rfl, ?_, ?_, hlt⟩
  · exact run_v (by simp [Instr.alloc, run_zeroValue hi hv, newVar, newRow])
  · simp only [VR]; exact ⟨_, Ren.put_same _ _ _, rfl⟩
  · exact BR_new rfl rfl rfl (by omega) (fun o _ h => by simp at h) hc (flats_of_allOne hc h1) (Nat.le_refl _) (fun i hi => cellOf_leaf _ hi) (fun i hi => by simp)

theorem opBox_ok (s : Sit ρ h nx w E n r a) {t : TypeId} {x : Operand} (hk : opBox t x P r h nx k = true) :
    MakeRes P (do pure (.value (← Instr.box t (a.eval x)))) ρ h nx w k := by
  obtain ⟨h1, hk⟩ := onTrue_true (show onTrue _ _ = true from hk)
  obtain ⟨hlt, hk⟩ := newB_true hk
  have hc := VR.cells (ev_ok s x) h1
  have hlen := hc.length
  simp only [Array.length_toList] at hlen
  refine ⟨.ptr nx 0, .pointer (some ⟨w.heap.size, 0, none⟩), _, .cells (a.eval x).cells t, ⟨w.heap.size, 0, (a.eval x).cells.size⟩, { w with heap := w.heap.push (.cells (a.eval x).cells t) }, hk, ?_, ⟨rfl, rfl, rfl⟩, rfl, ?_, ?_, hlt⟩
  · exact run_v (by simp [Instr.box, newVar, newRow])
  · simp only [VR]; exact ⟨_, Ren.put_same _ _ _, rfl⟩
  · exact BR_new rfl rfl rfl (by omega) (fun o _ h => by simp at h) hc (flats_of_allOne hc h1) (Nat.le_refl _) (fun i hi => cellOf_ofList _ _ hi) (fun i hi => by simp)

/-! ### Loads and stores -/
theorem sureAddr_ptr (b : Addr) (w : World) : (Instr.sureAddr (.pointer (some b))).run P w = .ok b w := rfl

theorem opLoad_ok (s : Sit ρ h nx w E n r a) {t : TypeId} {x : Operand} (hk : opLoad t x P r h nx k = true) :
    QuietRes P (do pure (.value (← Instr.loadAt t (a.eval x)))) ρ h nx w k := by
  obtain ⟨b, o, hb, hk⟩ := AV.onPtr_true (show (ev h r x).onPtr (load2 P h t (retV h nx k)) = true from hk)
  have hx := ev_ok s x
  rw [hb] at hx
  simp only [VR] at hx
  obtain ⟨L, hL, hx⟩ := hx
  obtain ⟨v, cv, hk, hr, hv⟩ := loadK_ok s.hs hL (show loadK P h t b o (retV h nx k) = true from hk)
  exact ⟨v, cv, hk, run_v (by simp [Instr.loadAt, hx, sureAddr_ptr, hr]), hv⟩

theorem VR_undef : VR ρ (.tup []) undef := by
  simp only [VR]; exact ⟨#[], rfl, VRs_nil.2 rfl⟩

theorem opStore_ok (s : Sit ρ h nx w E n r a) {t : TypeId} {x y : Operand} (hk : opStore t x y P r h nx k = true) :
    ActRes P (do Instr.storeAt t (a.eval x) (a.eval y); pure .skip) ρ nx w E k := by
  obtain ⟨b, o, hb, hk⟩ := AV.onPtr_true (show (ev h r x).onPtr (storeK P h t (ev h r y) (retH (.tup []) nx k)) = true from hk)
  have hx := ev_ok s x
  rw [hb] at hx
  simp only [VR] at hx
  obtain ⟨L, hL, hx⟩ := hx
  obtain ⟨h', w', hk, hr, hs, hso⟩ := storeK_ok s.hs hL (ev_ok s y) hk
  exact ⟨.tup [], h', nx, undef, .skip, w', ρ, hk, run_u (by simp [Instr.storeAt, hx, sureAddr_ptr, hr]), .inr ⟨rfl, rfl⟩, Ren.ext_refl nx ρ, Nat.le_refl nx, hso, VR_undef, hs⟩

theorem opFieldAddr_ok (s : Sit ρ h nx w E n r a) {t : TypeId} {x : Operand} {f : Nat} (hk : opFieldAddr t x f P r h nx k = true) :
    QuietRes P (do pure (.value (← Instr.fieldAt t (a.eval x) f))) ρ h nx w k := by
  obtain ⟨p, hp, hk⟩ := onSome_true (show onSome (fld P t f) (fieldAddr1 (ev h r x) h nx k) = true from hk)
  obtain ⟨fields, y, i, hd, hy, hi, rfl⟩ := fld_some hp
  obtain ⟨h1, hk⟩ := onTrue_true (show onTrue _ _ = true from hk)
  obtain ⟨b, o, hb, hk⟩ := AV.onPtr_true hk
  unfold fieldAddr2 at hk
  rw [forceN_eq] at hk
  have hx := ev_ok s x
  rw [hb] at hx
  simp only [VR] at hx
  obtain ⟨L, hL, hx⟩ := hx
  have hsz : ¬ i.size = 0 := by
    have : 0 < i.size := by simpa [Nat.blt_eq] using h1
    omega
  refine ⟨_, .pointer (some ⟨L.blk, L.off + (o + y.offset), none⟩), hk, ?_, by simp only [VR]; exact ⟨L, hL, rfl⟩⟩
  exact run_v (by simp [Instr.fieldAt, run_underlying hd, hy, hx, sureAddr_ptr, fieldPlace, run_sizeOf hi, hsz, Addr.add_mk, Nat.add_assoc])

theorem opIndexAddr_ok (s : Sit ρ h nx w E n r a) {t : TypeId} {x y : Operand} (hk : opIndexAddr t x y P r h nx k = true) :
    QuietRes P (do pure (.value (← Instr.indexAt t (a.eval x) (a.eval y)))) ρ h nx w k := by
  obtain ⟨kd, i', hi, hk⟩ := AV.onInt_true (show (ev h r y).onInt (index0 P t (ev h r x) h nx k) = true from hk)
  obtain ⟨i, rfl, hk⟩ := onNat_true (show onNat i' (index1 P t (ev h r x) h nx k) = true from hk)
  replace hk : index1 P t (ev h r x) h nx k i = true := hk
  have hy := ev_ok s y
  rw [hi] at hy
  simp only [VR] at hy
  have hx := ev_ok s x
  unfold index1 at hk
  cases he : sliceElem P t with
  | none =>
    rw [he] at hk
    obtain ⟨e, hae, hk⟩ := onSome_true (show onSome (arrayElem P t) (fun e => (ev h r x).onPtr fun b o => onTrue (Nat.blt i e.1) (forceN (o + i * e.2.2) (retP b h nx k))) = true from hk)
    obtain ⟨inf, hd, hinf, hsz⟩ := arrayElem_some hae
    obtain ⟨b, o, hb, hk⟩ := AV.onPtr_true hk
    obtain ⟨hlt, hk⟩ := onTrue_true hk
    rw [forceN_eq] at hk
    rw [hb] at hx
    simp only [VR] at hx
    obtain ⟨L, hL, hx⟩ := hx
    have hlt' : i < e.1 := by simpa [Nat.blt_eq] using hlt
    refine ⟨_, .pointer (some ⟨L.blk, L.off + (o + i * e.2.2), none⟩), hk, ?_, by simp only [VR]; exact ⟨L, hL, rfl⟩⟩
    exact run_v (by simp [Instr.indexAt, hy, asIntOf, run_underlying hd, hx, sureAddr_ptr, run_sizeOf hinf, hsz, Addr.add_mk, Nat.add_assoc, hlt'])
  | some e =>
    rw [he] at hk
    obtain ⟨inf, hd, hinf, hsz, _⟩ := sliceElem_some he
    obtain ⟨b, o, len, cap, ex, sz, hb, hk⟩ := AV.onSlice_true (show (ev h r x).onSlice (indexSl2 e.2.1 h nx k i) = true from hk)
    obtain ⟨hlt, hk⟩ := onTrue_true (show onTrue _ _ = true from hk)
    obtain ⟨hse, hk⟩ := onTrue_true hk
    rw [forceN_eq] at hk
    have hse' : e.2.1 = sz := by simpa [Nat.beq_eq] using hse
    rw [hb] at hx
    simp only [VR] at hx
    obtain ⟨L, co, c, hL, hx, _, hcap, hlen, hpos⟩ := hx
    have hlt' : i < len := by simpa [Nat.blt_eq] using hlt
    have hco := (hpos (by omega)).1
    refine ⟨_, .pointer (some ⟨L.blk, L.off + (o + i * sz), none⟩), hk, ?_, by simp only [VR]; exact ⟨L, hL, rfl⟩⟩
    exact run_v (by simp [Instr.indexAt, hy, asIntOf, run_underlying hd, hx, run_sizeOf hinf, hsz, hse', Addr.add_mk, hco, Nat.add_assoc, hlt'])
end

end Go.Proofs.YtfcoffpmcmhieaaGreatDoor.AI
namespace Go.Proofs.YtfcoffpmcmhieaaGreatDoor.AI
variable {P : Program}

/-! ### Integers -/
theorem wrap64_in {n : Int} (h1 : -9223372036854775808 ≤ n) (h2 : n < 9223372036854775808) : IntKind.wrap .i64 n = n := by
  have e64 : (2 : Int) ^ 64 = 18446744073709551616 := rfl
  have e63 : (2 : Int) ^ 63 = 9223372036854775808 := rfl
  simp only [IntKind.wrap, IntKind.bits, IntKind.signed, Bool.true_and, decide_eq_true_eq, e64, show (64 : Nat) - 1 = 63 from rfl, e63]
  split <;> omega

theorem wrapK_true {kd : IntKind} {n : Int} {k : Int → Bool} (h : wrapK kd n k = true) : k (IntKind.wrap kd n) = true := by
  cases kd with
  | i64 =>
    cases n with
    | ofNat m =>
      have h' : @Bool.rec (fun _ => Bool) (k (IntKind.wrap .i64 (.ofNat m))) (forceN m (retPos k)) (Nat.blt m 9223372036854775808) = true := h
      cases hb : Nat.blt m 9223372036854775808 with
      | false => rw [hb] at h'; exact h'
      | true =>
        rw [hb] at h'
        have hm : m < 9223372036854775808 := by simpa [Nat.blt_eq] using hb
        have h2 : forceN m (retPos k) = true := h'
        rw [forceN_eq] at h2
        rw [wrap64_in (by first | omega | simp) (by first | omega | (simp; omega))]
        exact h2
    | negSucc m =>
      have h' : @Bool.rec (fun _ => Bool) (k (IntKind.wrap .i64 (.negSucc m))) (forceN m (retNeg k)) (Nat.blt m 9223372036854775808) = true := h
      cases hb : Nat.blt m 9223372036854775808 with
      | false => rw [hb] at h'; exact h'
      | true =>
        rw [hb] at h'
        have hm : m < 9223372036854775808 := by simpa [Nat.blt_eq] using hb
        have h2 : forceN m (retNeg k) = true := h'
        rw [forceN_eq] at h2
        rw [wrap64_in (by omega) (by omega)]
        exact h2
  | _ => exact h

theorem intAdd_eq (a b : Int) : intAdd a b = a + b := by
  cases a <;> cases b <;> rfl
theorem intLt_eq (a b : Int) : intLt a b = decide (a < b) := by
  cases a with
  | ofNat x => cases b with
    | ofNat y => show Nat.blt x y = _; rw [Bool.eq_iff_iff]; simp [Nat.blt_eq]
    | negSucc y => show false = _; symm; simp; omega
  | negSucc x => cases b with
    | ofNat y => show true = _; symm; simp; omega
    | negSucc y => show Nat.blt y x = _; rw [Bool.eq_iff_iff]; simp [Nat.blt_eq]; omega
theorem intEq_eq (a b : Int) : intEq a b = decide (a = b) := by
  cases a with
  | ofNat x => cases b with
    | ofNat y => show Nat.beq x y = _; rw [Bool.eq_iff_iff]; simp [Nat.beq_eq]; omega
    | negSucc y => show false = _; symm; simp
  | negSucc x => cases b with
    | ofNat y => show false = _; symm; simp
    | negSucc y => show Nat.beq x y = _; rw [Bool.eq_iff_iff]; simp [Nat.beq_eq]

section
variable {ρ : Ren} {h : H} {nx : Nat} {w : World} {E : Nat → Option Obj} {n : Nat} {r : R} {a : Act} {k : K}

/-- The model's binary operation, as the machine runs it. -/
abbrev binSem (op : BinOp) (t : TypeId) (x y : Operand) (u v : Value) : Sem Next := do let z ← (do eqGuard op t x y u v; Go.binOp op t u v); pure (.value z)

theorem binSlow_ok (s : Sit ρ h nx w E n r a) {op : BinOp} {t : TypeId} {x y : Operand} (hk : binSlow op t x y P r h nx k = true) :
    QuietRes P (binSem op t x y (a.eval x) (a.eval y)) ρ h nx w k := by
  obtain ⟨u, hu, hk⟩ := onSome_true (show onSome (toV (ev h r x)) _ = true from hk)
  obtain ⟨v, hv, hk⟩ := onSome_true hk
  obtain ⟨z, hz, hk⟩ := onSome_true hk
  have e1 := VR_toV (ev_ok s x) hu
  have e2 := VR_toV (ev_ok s y) hv
  refine ⟨_, z, hk, ?_, VR_ofV ρ z⟩
  rw [e1, e2]
  exact run_v (pureRun_run hz w)

theorem eqGuard_int (op : BinOp) (t : TypeId) (x y : Operand) (ka kb : IntKind) (u v : Int) (w : World) : (eqGuard op t x y (.int ka u) (.int kb v)).run P w = .ok () w := by
  unfold eqGuard
  cases op <;> simp

theorem arith_ok (s : Sit ρ h nx w E n r a) {f : Int → Int → Int} {op : BinOp} {t : TypeId} {x y : Operand}
    (hf : ∀ kd u v (w : World), (Go.binOp op t (.int kd u) (.int kd v)).run P w = .ok (.int kd (kd.wrap (f u v))) w)
    (hk : arith f op t x y P r h nx k = true) : QuietRes P (binSem op t x y (a.eval x) (a.eval y)) ρ h nx w k := by
  rcases AV.onIntOr_true (show (ev h r x).onIntOr (arith1 f (ev h r y) h nx k) (binSlow op t x y P r h nx k) = true from hk) with ⟨ka, u, hx, hk⟩ | hk
  · obtain ⟨kb, v, hy, hk⟩ := AV.onInt_true (show (ev h r y).onInt (arith2 f h nx k ka u) = true from hk)
    obtain ⟨hkd, hk'⟩ := onTrue_true (show onTrue (kEq ka kb) (wrapK ka (f u v) (retI ka h nx k)) = true from hk)
    obtain rfl := kEq_true hkd
    have hk2 := wrapK_true hk'
    have h1 := ev_ok s x
    have h2 := ev_ok s y
    rw [hx] at h1; rw [hy] at h2
    simp only [VR] at h1 h2
    refine ⟨_, .int ka (ka.wrap (f u v)), hk2, ?_, by simp only [VR]⟩
    rw [h1, h2]
    exact run_v (by simp [eqGuard_int, hf])
  · exact binSlow_ok s hk

theorem comp12_ok (s : Sit ρ h nx w E n r a) {f : Int → Int → Bool} {op : BinOp} {t : TypeId} {x y : Operand} {ka : IntKind} {u : Int}
    (hf : ∀ kd u v (w : World), (Go.binOp op t (.int kd u) (.int kd v)).run P w = .ok (.bool (f u v)) w)
    (hx : ev h r x = .int ka u) (hk : comp1 f (ev h r y) h nx k ka u = true) : QuietRes P (binSem op t x y (a.eval x) (a.eval y)) ρ h nx w k := by
  obtain ⟨kb, v, hy, hk⟩ := AV.onInt_true (show (ev h r y).onInt (comp2 f h nx k ka u) = true from hk)
  obtain ⟨hkd, hk'⟩ := onTrue_true (show onTrue (kEq ka kb) (k (.val (.bool (f u v)) h nx)) = true from hk)
  obtain rfl := kEq_true hkd
  have h1 := ev_ok s x
  have h2 := ev_ok s y
  rw [hx] at h1; rw [hy] at h2
  simp only [VR] at h1 h2
  refine ⟨_, .bool (f u v), hk', ?_, by simp only [VR]⟩
  rw [h1, h2]
  exact run_v (by simp [eqGuard_int, hf])

theorem comp_ok (s : Sit ρ h nx w E n r a) {f : Int → Int → Bool} {op : BinOp} {t : TypeId} {x y : Operand}
    (hf : ∀ kd u v (w : World), (Go.binOp op t (.int kd u) (.int kd v)).run P w = .ok (.bool (f u v)) w)
    (hk : comp f op t x y P r h nx k = true) : QuietRes P (binSem op t x y (a.eval x) (a.eval y)) ρ h nx w k := by
  rcases AV.onIntOr_true (show (ev h r x).onIntOr (comp1 f (ev h r y) h nx k) (binSlow op t x y P r h nx k) = true from hk) with ⟨ka, u, hx, hk⟩ | hk
  · exact comp12_ok s hf hx hk
  · exact binSlow_ok s hk

theorem equal_unfold (t : TypeId) (x y : Value) : Op.equal t x y = Op.equalIn (9999 + 1) t x y := rfl

theorem binOp_nil {t : TypeId} {cu cv : Value} {b : Bool} {w : World} (key : (Op.equal t cu cv).run P w = .ok b w) (h1 : ∀ ka kb x y, ¬ (cu = .int ka x ∧ cv = .int kb y))
    (h2 : ∀ ka kb x y, ¬ (cu = .float ka x ∧ cv = .float kb y)) (h3 : ∀ ka kb x y z u, ¬ (cu = .complex ka x y ∧ cv = .complex kb z u)) (h4 : ∀ x y, ¬ (cu = .string x ∧ cv = .string y)) :
    (Go.binOp .eql t cu cv).run P w = .ok (.bool b) w ∧ (Go.binOp .neq t cu cv).run P w = .ok (.bool (!b)) w := by
  constructor
  · unfold Go.binOp
    split <;> first | (simp [key]; done) | (exfalso; first | exact h1 _ _ _ _ ⟨rfl, rfl⟩ | exact h2 _ _ _ _ ⟨rfl, rfl⟩ | exact h3 _ _ _ _ _ _ ⟨rfl, rfl⟩ | exact h4 _ _ ⟨rfl, rfl⟩) | simp_all
  · unfold Go.binOp
    split <;> first | (simp [key]; done) | (exfalso; first | exact h1 _ _ _ _ ⟨rfl, rfl⟩ | exact h2 _ _ _ _ ⟨rfl, rfl⟩ | exact h3 _ _ _ _ _ _ ⟨rfl, rfl⟩ | exact h4 _ _ ⟨rfl, rfl⟩) | simp_all

theorem nilEq_key {d : TypeDesc} {t : TypeId} (hd : P.underlying t = some d) {c b : Bool} {u v : AV} (hn : nilEq d c u v = some b) {cu cv : Value} (hu : VR ρ u cu) (hv : VR ρ v cv) (w : World) :
    (Op.equal t cu cv).run P w = .ok b w ∧ (cu = .nilIface → cv = .nilIface → c = true) ∧ (¬ ∃ x y, cu = .agg x ∧ cv = .agg y) ∧ (∀ ka kb x y, ¬ (cu = .int ka x ∧ cv = .int kb y)) ∧
    (∀ ka kb x y, ¬ (cu = .float ka x ∧ cv = .float kb y)) ∧ (∀ ka kb x y z u, ¬ (cu = .complex ka x y ∧ cv = .complex kb z u)) ∧ (∀ x y, ¬ (cu = .string x ∧ cv = .string y)) := by
  unfold nilEq at hn
  split at hn
  case h_1 =>
    by_cases hc : c = true
    · rw [if_pos hc] at hn
      cases hn
      simp only [VR] at hu hv
      subst hu hv
      refine ⟨?_, fun _ _ => hc, ?_⟩
      · rw [equal_unfold]; unfold Op.equalIn; simp [run_underlying hd]
      · simp
    · rw [if_neg hc] at hn; cases hn
  all_goals first
    | (cases hn; done)
    | (cases hn
       simp only [VR] at hu hv
       first
         | (subst hu hv)
         | (obtain ⟨_, rfl, _⟩ := hv; subst hu)
         | (obtain ⟨_, rfl, _⟩ := hu; subst hv)
         | (obtain ⟨_, _, rfl⟩ := hv; subst hu)
         | (obtain ⟨_, _, rfl⟩ := hu; subst hv)
         | (obtain ⟨_, _, _, _, rfl, _⟩ := hv; subst hu)
         | (obtain ⟨_, _, _, _, rfl, _⟩ := hu; subst hv)
       refine ⟨?_, ?_⟩
       · rw [equal_unfold]; unfold Op.equalIn; simp [run_underlying hd]
       · simp)

theorem nilEq_run {d : TypeDesc} {t : TypeId} (hd : P.underlying t = some d) {c b : Bool} {u v : AV} (hn : nilEq d c u v = some b) {cu cv : Value} (hu : VR ρ u cu) (hv : VR ρ v cv) (w : World) :
    (cu = .nilIface → cv = .nilIface → c = true) ∧ (¬ ∃ x y, cu = .agg x ∧ cv = .agg y) ∧ (Go.binOp .eql t cu cv).run P w = .ok (.bool b) w ∧ (Go.binOp .neq t cu cv).run P w = .ok (.bool (!b)) w := by
  obtain ⟨h1, h2, h3, h4, h5, h6, h7⟩ := nilEq_key hd hn hu hv w
  exact ⟨h2, h3, binOp_nil h1 h4 h5 h6 h7⟩

theorem isConst_eq (x : Operand) : (match x with | .const _ => true | _ => false) = isConst x := by cases x <;> rfl

theorem eqGuard_nil {op : BinOp} {t : TypeId} {x y : Operand} {cu cv : Value} (h1 : cu = .nilIface → cv = .nilIface → (isConst x || isConst y) = true) (h2 : ¬ (∃ p q, cu = .agg p ∧ cv = .agg q)) (w : World) :
    (eqGuard op t x y cu cv).run P w = .ok () w := by
  unfold eqGuard
  cases op <;> first | (simp; done) | skip
  all_goals
    simp only [Bool.not_true, Bool.false_eq_true, if_false]
    split
    · have := h1 rfl rfl
      cases x <;> cases y <;> first | rfl | (simp [isConst] at this)
    · exact absurd ⟨_, _, rfl, rfl⟩ h2
    · rfl

theorem binEq_ok (s : Sit ρ h nx w E n r a) {op : BinOp} {neg : Bool} {t : TypeId} {x y : Operand} (hop : (op = .eql ∧ neg = false) ∨ (op = .neq ∧ neg = true))
    (hk : binEq op neg t x y P r h nx k = true) : QuietRes P (binSem op t x y (a.eval x) (a.eval y)) ρ h nx w k := by
  unfold binEq at hk
  split at hk
  · rename_i b hb
    simp only [Option.bind_eq_some_iff] at hb
    obtain ⟨d, hd, hn⟩ := hb
    obtain ⟨h1, h2, h4, h5⟩ := nilEq_run hd hn (ev_ok s x) (ev_ok s y) w
    refine ⟨_, .bool (b != neg), hk, ?_, by simp only [VR]⟩
    rcases hop with ⟨rfl, rfl⟩ | ⟨rfl, rfl⟩
    · exact run_v (by simp [eqGuard_nil h1 h2, h4])
    · exact run_v (by simp [eqGuard_nil h1 h2, h5])
  · exact binSlow_ok s hk

theorem compE_ok (s : Sit ρ h nx w E n r a) {f : Int → Int → Bool} {op : BinOp} {neg : Bool} {t : TypeId} {x y : Operand} (hop : (op = .eql ∧ neg = false) ∨ (op = .neq ∧ neg = true))
    (hf : ∀ kd u v (w : World), (Go.binOp op t (.int kd u) (.int kd v)).run P w = .ok (.bool (f u v)) w)
    (hk : compE f op neg t x y P r h nx k = true) : QuietRes P (binSem op t x y (a.eval x) (a.eval y)) ρ h nx w k := by
  rcases AV.onIntOr_true (show (ev h r x).onIntOr (comp1 f (ev h r y) h nx k) (binEq op neg t x y P r h nx k) = true from hk) with ⟨ka, u, hx, hk⟩ | hk
  · exact comp12_ok s hf hx hk
  · exact binEq_ok s hop hk

theorem opBin_ok (s : Sit ρ h nx w E n r a) {op : BinOp} {t u : TypeId} {x y : Operand} (hk : opBin op t x y u P r h nx k = true) :
    QuietRes P (binSem op t x y (a.eval x) (a.eval y)) ρ h nx w k := by
  cases op with
  | add => exact arith_ok s (fun kd u v w => by simp [Go.binOp, Op.intArith, intAdd_eq]) hk
  | sub => exact arith_ok s (fun kd u v w => by simp [Go.binOp, Op.intArith, intSub]) hk
  | mul => exact arith_ok s (fun kd u v w => by simp [Go.binOp, Op.intArith, intMul]) hk
  | eql => exact compE_ok s (.inl ⟨rfl, rfl⟩) (fun kd u v w => by simp [Go.binOp, Op.intCmp, intEq_eq]; rw [Bool.eq_iff_iff]; simp) hk
  | neq => exact compE_ok s (.inr ⟨rfl, rfl⟩) (fun kd u v w => by simp [Go.binOp, Op.intCmp, intNe, intEq_eq]; rw [Bool.eq_iff_iff]; simp) hk
  | lss => exact comp_ok s (fun kd u v w => by simp [Go.binOp, Op.intCmp, intLt_eq]) hk
  | gtr => exact comp_ok s (fun kd u v w => by simp [Go.binOp, Op.intCmp, intGt, intLt_eq]) hk
  | leq => exact comp_ok s (fun kd u v w => by simp [Go.binOp, Op.intCmp, intLe, intLt_eq]; rw [Bool.eq_iff_iff]; simp) hk
  | geq => exact comp_ok s (fun kd u v w => by simp [Go.binOp, Op.intCmp, intGe, intLt_eq]; rw [Bool.eq_iff_iff]; simp) hk
  | _ => exact binSlow_ok s hk

theorem opUn_ok (s : Sit ρ h nx w E n r a) {op : UnOp} {t : TypeId} {x : Operand} (hk : opUn op t x P r h nx k = true) :
    QuietRes P (do pure (.value (← Op.unary op (a.eval x)))) ρ h nx w k := by
  obtain ⟨u, hu, hk⟩ := onSome_true (show onSome (toV (ev h r x)) _ = true from hk)
  obtain ⟨z, hz, hk⟩ := onSome_true hk
  have e1 := VR_toV (ev_ok s x) hu
  refine ⟨_, z, hk, ?_, VR_ofV ρ z⟩
  rw [e1]
  exact run_v (pureRun_run hz w)

theorem opMakeInterface_ok (s : Sit ρ h nx w E n r a) {t : TypeId} {x : Operand} (hk : opMakeInterface t x P r h nx k = true) :
    QuietRes P (do pure (.value (← Instr.makeInterface t (a.eval x)))) ρ h nx w k := by
  unfold opMakeInterface at hk
  split at hk
  · cases hk
  · cases hk
  · rename_i h1 h2
    cases hd : P.underlying t with
    | none => exact absurd hd h2
    | some d =>
      refine ⟨_, .iface t (a.eval x), hk, ?_, by simp only [VR]; exact ⟨_, rfl, ev_ok s x⟩⟩
      refine run_v ?_
      unfold Instr.makeInterface
      cases d <;> first | (simp [run_underlying hd]; done) | exact absurd hd (h1 _)

theorem opMakeFunc_ok (s : Sit ρ h nx w E n r a) {fn : Fn} {first captured : Array Operand} (hk : opMakeFunc fn first captured P r h nx k = true) :
    QuietRes P (do pure (.value (← Instr.makeFunc fn (first.map a.eval) (captured.map a.eval)))) ρ h nx w k := by
  unfold opMakeFunc at hk
  split at hk
  · rename_i f
    split at hk
    · rename_i hf
      have hf : first = #[] := Array.ext' hf
      refine ⟨_, .func (.func f) #[] (captured.map a.eval), hk, ?_, by simp only [VR]; exact ⟨_, rfl, evs_ok' s captured⟩⟩
      subst hf
      exact run_v (by simp [Instr.makeFunc])
    · rename_i x hf
      have hf : first = #[x] := Array.ext' hf
      obtain ⟨h1, hk⟩ := onTrue_true hk
      have hc : captured = #[] := by simpa using h1
      refine ⟨_, .func (.func f) #[a.eval x] #[], hk, ?_, by simp only [VR]; exact ⟨_, rfl, ev_ok s x⟩⟩
      subst hf; subst hc
      exact run_v (by simp [Instr.makeFunc])
    · cases hk
  · cases hk

theorem opExtract_ok (s : Sit ρ h nx w E n r a) {x : Operand} {i : Nat} (hk : opExtract x i P r h nx k = true) :
    QuietRes P (do pure (.value (← Instr.extract (a.eval x) i))) ρ h nx w k := by
  have hx := ev_ok s x
  unfold opExtract at hk
  split at hk
  · rename_i l hl
    obtain ⟨v, hv, hk⟩ := onSome_true hk
    rw [hl] at hx
    simp only [VR] at hx
    obtain ⟨cs, hx, hvs⟩ := hx
    obtain ⟨u, hu, hr⟩ := hvs.get i v hv
    refine ⟨v, u, hk, run_v ?_, hr⟩
    have hu' : cs[i]? = some u := by simpa using hu
    simp [Instr.extract, hx, hu']
  · cases hk

theorem opNilCheck_ok (s : Sit ρ h nx w E n r a) {x : Operand} {ty : TypeId} {dst : Option Tmp} {pos : String} {after : Array Edge} {g : Option (Nat × Bool)} (hk : opNilCheck x P r h nx k = true) :
    QuietRes P (execOp a.eval ⟨dst, .nilCheck x, ty, pos, after, g⟩) ρ h nx w k := by
  have hx := ev_ok s x
  unfold opNilCheck at hk
  split at hk
  · rename_i b o hl
    rw [hl] at hx
    have hx' := hx
    simp only [VR] at hx
    obtain ⟨L, hL, hx⟩ := hx
    exact ⟨_, a.eval x, hk, by simp [execOp, hx], hx'⟩
  · rename_i f l hl
    rw [hl] at hx
    have hx' := hx
    simp only [VR] at hx
    obtain ⟨cs, hx, _⟩ := hx
    exact ⟨_, a.eval x, hk, by simp [execOp, hx], hx'⟩
  · rename_i f v hl
    rw [hl] at hx
    have hx' := hx
    simp only [VR] at hx
    obtain ⟨u, hx, _⟩ := hx
    exact ⟨_, a.eval x, hk, by simp [execOp, hx], hx'⟩
  · rename_i t v hl
    rw [hl] at hx
    have hx' := hx
    simp only [VR] at hx
    obtain ⟨u, hx, _⟩ := hx
    exact ⟨_, a.eval x, hk, by simp [execOp, hx], hx'⟩
  · cases hk
end

end Go.Proofs.YtfcoffpmcmhieaaGreatDoor.AI
namespace Go.Proofs.YtfcoffpmcmhieaaGreatDoor.AI
variable {P : Program}

theorem run_mapM {α β : Type} (f : α → Sem β) (g : α → β) (w : World) : ∀ l : List α, (∀ x ∈ l, (f x).run P w = .ok (g x) w) → (l.mapM f).run P w = .ok (l.map g) w
  | [], _ => by simp
  | x :: l, h => by
    have h1 := h x (List.mem_cons_self ..)
    have h2 := run_mapM f g w l fun y hy => h y (List.mem_cons_of_mem _ hy)
    simp [List.mapM_cons, h1, h2]
theorem run_mapMA {α β : Type} (f : α → Sem β) (g : α → β) (w : World) (l : Array α) (h : ∀ x ∈ l.toList, (f x).run P w = .ok (g x) w) : (l.mapM f).run P w = .ok (l.map g) w := by
  rw [Array.mapM_eq_mapM_toList]
  simp only [Sem.run_map, run_mapM f g w l.toList h, Result.andThen_ok]
  congr 1
  apply Array.ext'
  simp

theorem foldl_laid (off : Nat) : ∀ (l : List Value) (i : Nat) (cs : Array Value), (l.zipIdx i).foldl (fun cs x => cs.setIfInBounds (off + x.2) x.1) cs = laid cs l (off + i)
  | [], _, _ => rfl
  | v :: l, i, cs => by
    rw [List.zipIdx_cons, List.foldl_cons, foldl_laid off l (i + 1)]
    rfl
theorem fold_laid (off : Nat) (vs cs : Array Value) : vs.zipIdx.foldl (fun cs (x : Value × Nat) => cs.setIfInBounds (off + x.2) x.1) cs = laid cs vs.toList off := by
  rw [← Array.foldl_toList, Array.toList_zipIdx]
  exact foldl_laid off vs.toList 0 cs

section
variable {ρ : Ren}

theorem VRs_laid {cs l : List AV} {c : Array Value} {vs : List Value} (hc : VRs ρ cs c.toList) (hv : VRs ρ l vs) {off : Nat} (ho : off + l.length ≤ cs.length) :
    VRs ρ (cs.take off ++ l ++ cs.drop (off + l.length)) (laid c vs off).toList := by
  have h1 := hc.length
  have h2 := hv.length
  simp only [Array.length_toList] at h1
  refine VRs.of_get (by simp [laid_size]; omega) fun i a hi => ?_
  rw [Array.getElem?_toList, laid_get]
  by_cases hlt : i < off
  · rw [if_neg (by omega)]
    rw [List.append_assoc, List.getElem?_append_left (by simp; omega), List.getElem?_take, if_pos hlt] at hi
    obtain ⟨v, hv', hr⟩ := hc.get i a hi
    exact ⟨v, by simpa using hv', hr⟩
  · by_cases hlt2 : i < off + l.length
    · rw [if_pos (by omega)]
      rw [List.append_assoc, List.getElem?_append_right (by simp; omega), List.getElem?_append_left (by simp; omega)] at hi
      rw [show (List.take off cs).length = off from by simp; omega] at hi
      exact hv.get _ a hi
    · rw [if_neg (by omega)]
      rw [List.getElem?_append_right (by simp; omega), List.getElem?_drop] at hi
      rw [show (off + l.length + (i - (List.take off cs ++ l).length)) = i from by simp; omega] at hi
      obtain ⟨v, hv', hr⟩ := hc.get i a hi
      exact ⟨v, by simpa using hv', hr⟩

/-- Parts, with their values. -/
def PartsR (ρ : Ren) : List (Nat × AV) → List (Nat × Value) → Prop
  | [], l => l = []
  | (i, a) :: r, l => ∃ v m, l = (i, v) :: m ∧ VR ρ a v ∧ PartsR ρ r m

theorem fill_ok {place : Nat → Option (Nat × Nat)} : ∀ {ps : List (Nat × AV)} {qs : List (Nat × Value)} {cs cs' : List AV} {c : Array Value}, PartsR ρ ps qs → VRs ρ cs c.toList →
    AV.allOne cs = true → fillA place ps cs = some cs' → ∃ c', Instr.fill place c qs = some c' ∧ VRs ρ cs' c'.toList ∧ AV.allOne cs' = true ∧ cs'.length = cs.length
  | [], qs, cs, cs', c, hp, hc, h1, hf => by
    simp only [PartsR] at hp
    subst hp
    simp only [fillA, Option.some.injEq] at hf
    subst hf
    exact ⟨c, rfl, hc, h1, rfl⟩
  | (i, a) :: ps, qs, cs, cs', c, hp, hc, h1, hf => by
    simp only [PartsR] at hp
    obtain ⟨v, m, rfl, hv, hp⟩ := hp
    simp only [fillA] at hf
    split at hf
    · cases hf
    · rename_i off size hpl
      split at hf
      · cases hf
      · rename_i hcond
        simp only [ne_eq, Bool.or_eq_true, decide_eq_true_eq, Bool.not_eq_eq_eq_not, Bool.not_true, not_or, Decidable.not_not, Bool.not_eq_false] at hcond
        obtain ⟨⟨hs, hle⟩, ha⟩ := hcond
        have hvc := hv.cells ha
        have hl1 := hvc.length
        have hl2 := hc.length
        simp only [Array.length_toList] at hl1 hl2
        have h3 := VRs_laid hc hvc (off := off) (by omega)
        rw [hs] at h3
        have hall : AV.allOne (cs.take off ++ a.cells ++ cs.drop (off + size)) = true := by
          simp only [AV.allOne, List.all_append, Bool.and_eq_true, List.all_eq_true] at h1 ha ⊢
          exact ⟨⟨fun x hx => h1 x (List.mem_of_mem_take hx), ha⟩, fun x hx => h1 x (List.mem_of_mem_drop hx)⟩
        obtain ⟨c', e1, e2, e3, e4⟩ := fill_ok hp h3 hall hf
        refine ⟨c', ?_, e2, e3, by rw [e4]; simp; omega⟩
        simp only [Instr.fill, hpl]
        rw [if_neg (by simp; omega)]
        rw [fold_laid]; exact e1
end

section
variable {ρ : Ren} {h : H} {nx : Nat} {w : World} {E : Nat → Option Obj} {n : Nat} {r : R} {a : Act} {k : K}

theorem parts_ok (s : Sit ρ h nx w E n r a) : ∀ (l : List (Nat × Operand)), PartsR ρ (l.map fun p => (p.1, ev h r p.2)) (l.map fun p => (p.1, a.eval p.2))
  | [] => rfl
  | p :: l => ⟨a.eval p.2, _, rfl, ev_ok s p.2, parts_ok s l⟩
theorem parts_toList (l : Array (Nat × Operand)) (f : Operand → Value) : (l.map fun (x : Nat × Operand) => (x.1, f x.2)).toList = l.toList.map fun p => (p.1, f p.2) := by simp

theorem zero_cells {t : TypeId} {z : List AV} (hz : zeroCellsOf P t = some z) (h1 : AV.allOne z = true) (ρ : Ren) : ∃ i v, P.info? t = some i ∧ i.zero = some v ∧ VRs ρ z v.cells.toList := by
  obtain ⟨i, v, hi, hv, rfl⟩ := zeroCellsOf_some hz
  exact ⟨i, v, hi, hv, VR.cells (VR_ofV ρ v) h1⟩

theorem mapM_some {α β : Type} {f : α → Option β} : ∀ {l : List α} {m : List β}, l.mapM f = some m → ∀ x ∈ l, ∃ y, f x = some y
  | [], _, _, x, hx => by cases hx
  | a :: l, m, h, x, hx => by
    simp only [List.mapM_cons, Option.bind_eq_bind, Option.bind_eq_some_iff, Option.pure_def, Option.some.injEq] at h
    obtain ⟨b, hb, m', hm, rfl⟩ := h
    cases hx with
    | head => exact ⟨b, hb⟩
    | tail _ hx => exact mapM_some hm x hx
theorem mapM_eq_map {α β : Type} {f : α → Option β} {g : α → β} : ∀ {l : List α} {m : List β}, l.mapM f = some m → (∀ x ∈ l, ∀ y, f x = some y → y = g x) → m = l.map g
  | [], m, h, _ => by simp at h; subst h; rfl
  | a :: l, m, h, hg => by
    simp only [List.mapM_cons, Option.bind_eq_bind, Option.bind_eq_some_iff, Option.pure_def, Option.some.injEq] at h
    obtain ⟨b, hb, m', hm, rfl⟩ := h
    rw [mapM_eq_map hm fun x hx => hg x (List.mem_cons_of_mem _ hx), hg a (List.mem_cons_self ..) b hb]; rfl

theorem opBuild_ok (s : Sit ρ h nx w E n r a) {t : TypeId} {parts : Array (Nat × Operand)} (hk : opBuild t parts P r h nx k = true) :
    QuietRes P (do pure (.value (← Instr.build t (parts.map fun (i, x) => (i, a.eval x))))) ρ h nx w k := by
  obtain ⟨z, hz, hk⟩ := onSome_true (show onSome (zeroCellsOf P t) _ = true from hk)
  obtain ⟨place, hp, hk⟩ := onSome_true hk
  obtain ⟨h1, hk⟩ := onTrue_true hk
  obtain ⟨cs, hcs, hk⟩ := onSome_true hk
  obtain ⟨i, zv, hi, hzv, hzc⟩ := zero_cells hz h1 ρ
  obtain ⟨c', e1, e2, _, _⟩ := fill_ok (parts_ok s parts.toList) hzc h1 hcs
  refine ⟨_, .agg c', hk, run_v ?_, by simp only [VR]; exact ⟨c', rfl, e2⟩⟩
  have hpl : (parts.map fun (x : Nat × Operand) => (x.1, a.eval x.2)).toList = parts.toList.map fun p => (p.1, a.eval p.2) := parts_toList parts a.eval
  unfold placesOf at hp
  split at hp
  · rename_i fields hd
    simp only [Option.map_eq_some_iff] at hp
    obtain ⟨l, hl, rfl⟩ := hp
    unfold structPlaces at hl
    rw [hd] at hl
    simp only at hl
    have hm := run_mapMA (P := P) (fun (f : Field) => do pure (f.offset, ← sizeOf f.type)) (fun f => (f.offset, ((P.info? f.type).map (·.size)).getD 0)) w fields fun f hf => by
      obtain ⟨y, hy⟩ := mapM_some hl f hf
      simp only [Option.map_eq_some_iff] at hy
      obtain ⟨j, hj, _⟩ := hy
      simp [run_sizeOf hj, hj]
    have hl' := mapM_eq_map (g := fun (f : Field) => (f.offset, ((P.info? f.type).map (·.size)).getD 0)) hl fun f _ y hy => by
      simp only [Option.map_eq_some_iff] at hy
      obtain ⟨j, hj, rfl⟩ := hy
      simp [hj]
    have hplace : (fun (i : Nat) => (fields.map fun (f : Field) => (f.offset, ((P.info? f.type).map (·.size)).getD 0))[i]?) = fun i => l[i]? := by
      funext i
      rw [hl']
      simp
    unfold Instr.build
    simp only [Sem.run_bind, run_zeroValue hi hzv, Result.andThen_ok, run_underlying hd, hm, hplace, hpl, e1]
    rfl
  · rename_i m e hd
    simp only [Option.map_eq_some_iff] at hp
    obtain ⟨x, hx, rfl⟩ := hp
    unfold Instr.build
    simp only [Sem.run_bind, run_zeroValue hi hzv, Result.andThen_ok, run_underlying hd, run_sizeOf hx, hpl, e1]
    rfl
  · cases hp

end
end Go.Proofs.YtfcoffpmcmhieaaGreatDoor.AI
namespace Go.Proofs.YtfcoffpmcmhieaaGreatDoor.AI
variable {P : Program}

theorem repeatL_length (z : List AV) : ∀ n, (repeatL z n).length = n * z.length
  | 0 => by simp [repeatL]
  | n + 1 => by simp [repeatL, repeatL_length z n, Nat.succ_mul]; omega
theorem repeatL_get (z : List AV) : ∀ (n i : Nat), i < n * z.length → (repeatL z n)[i]? = z[i % z.length]?
  | 0, i, h => by simp at h
  | n + 1, i, h => by
    simp only [repeatL]
    have hp : 0 < z.length := by
      rcases Nat.eq_zero_or_pos z.length with h0 | h0
      · rw [h0] at h; simp at h
      · exact h0
    by_cases hlt : i < z.length
    · rw [List.getElem?_append_left hlt, Nat.mod_eq_of_lt hlt]
    · rw [List.getElem?_append_right (by omega), repeatL_get z n (i - z.length) (by rw [Nat.succ_mul] at h; omega), ← Nat.mod_eq_sub_mod (by omega)]

theorem allOne_repeat {z : List AV} (h : AV.allOne z = true) : ∀ n, AV.allOne (repeatL z n) = true
  | 0 => rfl
  | n + 1 => by
    simp only [repeatL, AV.allOne, List.all_append, Bool.and_eq_true]
    exact ⟨h, allOne_repeat h n⟩

section
variable {ρ : Ren} {h : H} {nx : Nat} {w : World} {E : Nat → Option Obj} {n : Nat} {r : R} {a : Act} {k : K}

/-- The zeros of a new row. -/
def zeroRow (zs : Array Value) (m : Nat) : Array Value := (Array.range m).map (fun i => zs[i % zs.size]!)

theorem VRs_zeroRow {z : List AV} {zs : Array Value} (hz : VRs ρ z zs.toList) (m : Nat) (hs : m = 0 ∨ 0 < z.length) (len : Nat) (hm : m = len * z.length) : VRs ρ (repeatL z len) (zeroRow zs m).toList := by
  have hl := hz.length
  simp only [Array.length_toList] at hl
  refine VRs.of_get (by simp [zeroRow, repeatL_length, hm]) fun i a hi => ?_
  have hlt : i < m := by
    have := (List.getElem?_eq_some_iff.1 hi).1
    rw [repeatL_length] at this; omega
  rw [repeatL_get z len i (by omega)] at hi
  obtain ⟨v, hv, hr⟩ := hz.get _ a hi
  refine ⟨v, ?_, hr⟩
  have hmod : i % zs.size < zs.size := Nat.mod_lt _ (by omega)
  have hv' : zs[i % zs.size]? = some v := by rw [hl]; simpa using hv
  have : zs[i % zs.size]! = v := by
    rw [Array.getElem?_eq_getElem hmod] at hv'
    simp only [Option.some.injEq] at hv'
    rw [getElem!_pos zs _ hmod, hv']
  simp [zeroRow, hlt, this]

theorem pos_of_mul {z : List AV} {m q : Nat} (hz : z.length = q) (h0 : ¬ m * q = 0) : 0 < z.length := by
  rcases Nat.eq_zero_or_pos z.length with h | h
  · rw [hz] at h; rw [h] at h0; simp at h0
  · exact h

theorem opBuildSlice_ok (s : Sit ρ h nx w E n r a) {t : TypeId} {len : Nat} {parts : Array (Nat × Operand)} (hk : opBuildSlice t len parts P r h nx k = true) :
    MakeRes P (do pure (.value (← Instr.buildSlice t len (parts.map fun (i, x) => (i, a.eval x))))) ρ h nx w k := by
  obtain ⟨e, he, hk⟩ := onSome_true (show onSome (sliceElem P t) _ = true from hk)
  obtain ⟨z, hz, hk⟩ := onSome_true hk
  obtain ⟨hc, hk⟩ := onTrue_true hk
  simp only [Bool.and_eq_true, beq_iff_eq, decide_eq_true_eq] at hc
  obtain ⟨⟨h1, hzl⟩, hle⟩ := hc
  obtain ⟨cs, hcs, hk⟩ := onSome_true hk
  obtain ⟨hlt, hk⟩ := newB_true hk
  obtain ⟨inf, hd, hinf, hsz, _⟩ := sliceElem_some he
  obtain ⟨i, zv, hi, hzv, hzc⟩ := zero_cells hz h1 ρ
  have hzl2 := hzc.length
  simp only [Array.length_toList] at hzl2
  -- the zeros
  have hvr : VRs ρ (repeatL z len) (zeroRow (if len * e.2.1 = 0 then #[] else zv.cells) (len * e.2.1)).toList := by
    by_cases h0 : len * e.2.1 = 0
    · have hrl : repeatL z len = [] := List.eq_nil_of_length_eq_zero (by rw [repeatL_length, hzl]; exact h0)
      rw [hrl, h0]
      exact VRs_nil.2 (by simp [zeroRow])
    · rw [if_neg h0]
      exact VRs_zeroRow hzc _ (.inr (pos_of_mul hzl h0)) len (by rw [hzl])
  obtain ⟨c', e1, e2, e3, e4⟩ := fill_ok (parts_ok s parts.toList) hvr (allOne_repeat h1 len) hcs
  have hpl : (parts.map fun (x : Nat × Operand) => (x.1, a.eval x.2)).toList = parts.toList.map fun p => (p.1, a.eval p.2) := parts_toList parts a.eval
  have hcl := e2.length
  simp only [Array.length_toList] at hcl
  have hcsl : cs.length = len * e.2.1 := by rw [e4, repeatL_length, hzl]
  let L : Loc := ⟨w.heap.size, 0, c'.size⟩
  have hmono := e2
  refine ⟨_, .slice (some ⟨w.heap.size, 0, none⟩) len len, _, .cells c' e.1, L, { w with heap := w.heap.push (.cells c' e.1) }, hk, run_v ?_, ⟨rfl, rfl, rfl⟩, rfl, ?_, ?_, hlt⟩
  · unfold Instr.buildSlice
    simp only [Sem.run_bind, run_underlying hd, Result.andThen_ok, run_sizeOf hinf, hsz]
    rw [if_neg (by omega)]
    unfold zeroRow at e1
    by_cases h0 : len * e.2.1 = 0
    · rw [if_pos h0] at e1
      simp only [h0, if_true] at e1 ⊢
      simp only [Sem.run_bind, Sem.run_pure, Result.andThen_ok, hpl, e1]
      simp [newRow]
    · rw [if_neg h0] at e1
      simp only [h0, if_false, Sem.run_bind, run_zeroValue hi hzv, Sem.run_pure, Result.andThen_ok, hpl, e1]
      simp [newRow]
  · simp only [VR]
    exact ⟨L, 0, len, Ren.put_same _ _ _, rfl, fun _ => rfl, Nat.le_refl _, Nat.le_refl _, fun _ => ⟨rfl, by show 0 + len * e.2.1 ≤ c'.size; omega⟩⟩
  · exact BR_new rfl rfl rfl (by omega) (fun o _ h => by simp at h) hmono (flats_of_allOne hmono e3) (by omega) (fun i hi => cellOf_ofList _ _ (by omega)) (fun i hi => by simp)

theorem opMakeMap_ok (s : Sit ρ h nx w E n r a) {t : TypeId} {res : Option Operand} (hk : opMakeMap t res P r h nx k = true) :
    MakeRes P (do pure (.value (← Instr.makeMap t (res.map a.eval)))) ρ h nx w k := by
  have main : ∀ hk : newB (.map nx) (.map [] 0) h nx k = true, (Instr.makeMap t (res.map a.eval)).run P w = .ok (.map (some w.heap.size)) { w with heap := w.heap.push (.map #[] 0) } →
      MakeRes P (do pure (.value (← Instr.makeMap t (res.map a.eval)))) ρ h nx w k := by
    intro hk hrun
    obtain ⟨hlt, hk⟩ := newB_true hk
    refine ⟨_, .map (some w.heap.size), _, .map #[] 0, ⟨w.heap.size, 0, 0⟩, _, hk, run_v hrun, ⟨rfl, rfl, rfl⟩, rfl, ?_, ?_, hlt⟩
    · simp only [VR]; exact ⟨_, Ren.put_same _ _ _, rfl⟩
    · exact ⟨#[], 0, by simp, ⟨rfl, fun i e he => by simp at he⟩, by simp, by simp⟩
  unfold opMakeMap at hk
  split at hk
  · exact main hk (by simp [Instr.makeMap])
  · rename_i x
    obtain ⟨kd, m, hx, hk⟩ := AV.onInt_true hk
    obtain ⟨e, he, hk⟩ := onSome_true hk
    have hd := mapKind_some he
    have hv := ev_ok s x
    rw [hx] at hv
    simp only [VR] at hv
    exact main hk (by simp [Instr.makeMap, hv, run_underlying hd, asInt, asIntOf])

theorem opMakeSlice_ok (s : Sit ρ h nx w E n r a) {t : TypeId} {len cap : Operand} (hk : opMakeSlice t len cap P r h nx k = true) :
    MakeRes P (do pure (.value (← Instr.makeSlice t (a.eval len) (a.eval cap)))) ρ h nx w k := by
  obtain ⟨kd, l', hl, hk1⟩ := AV.onInt_true (show (ev h r len).onInt _ = true from hk)
  clear hk
  obtain ⟨kd', c', hc, hk2⟩ := AV.onInt_true hk1
  clear hk1
  obtain ⟨l, hl', hk3⟩ := onNat_true hk2
  clear hk2
  obtain ⟨c, hc', hk4⟩ := onNat_true hk3
  clear hk3
  subst hl' hc'
  obtain ⟨e, he, hk⟩ := onSome_true hk4
  clear hk4
  obtain ⟨z, hz, hk⟩ := onSome_true hk
  obtain ⟨hcond, hk⟩ := onTrue_true hk
  simp only [Bool.and_eq_true, beq_iff_eq, decide_eq_true_eq] at hcond
  obtain ⟨⟨⟨⟨hlc, hcb⟩, heb⟩, h1⟩, hzl⟩ := hcond
  rw [forceN_eq, forceN_eq, forceN_eq] at hk
  obtain ⟨hlt, hk⟩ := newB_true hk
  obtain ⟨inf, hd, hinf, hsz, hby⟩ := sliceElem_some he
  obtain ⟨i, zv, hi, hzv, hzc⟩ := zero_cells hz h1 ρ
  have hzl2 := hzc.length
  simp only [Array.length_toList] at hzl2
  have hvl := ev_ok s len
  have hvc := ev_ok s cap
  rw [hl] at hvl; rw [hc] at hvc
  simp only [VR] at hvl hvc
  have hwl : IntKind.wrap .i64 (l : Int) = l := wrap64_in (by omega) (by omega)
  have hwc : IntKind.wrap .i64 (c : Int) = c := wrap64_in (by omega) (by omega)
  have hmul : e.2.2 * c ≤ 17592186044416 := Nat.le_trans (Nat.mul_le_mul (show e.2.2 ≤ 1048576 by omega) (show c ≤ 16777216 by omega)) (by decide)
  have hbig : (inf.bytes : Int) * (c : Int) ≤ 17592186044416 := by
    rw [hby]
    have h' : ((e.2.2 * c : Nat) : Int) ≤ 17592186044416 := by omega
    rw [Int.natCast_mul] at h'
    exact h'
  have hvr : VRs ρ (repeatL z c) (zeroRow (if c * e.2.1 = 0 then #[] else zv.cells) (c * e.2.1)).toList := by
    by_cases h0 : c * e.2.1 = 0
    · have hrl : repeatL z c = [] := List.eq_nil_of_length_eq_zero (by rw [repeatL_length, hzl]; exact h0)
      rw [hrl, h0]
      exact VRs_nil.2 (by simp [zeroRow])
    · rw [if_neg h0]
      exact VRs_zeroRow hzc _ (.inr (pos_of_mul hzl h0)) c (by rw [hzl])
  generalize hzs : (if c * e.2.1 = 0 then #[] else zv.cells) = zs at hvr
  have hsize : (zeroRow zs (c * e.2.1)).size = c * e.2.1 := by simp [zeroRow]
  let L : Loc := ⟨w.heap.size, 0, c * e.2.1⟩
  have hmono := hvr
  refine ⟨_, .slice (some ⟨w.heap.size, 0, none⟩) l c, _, .cells (zeroRow zs (c * e.2.1)) e.1, L, { w with heap := w.heap.push (.cells (zeroRow zs (c * e.2.1)) e.1) }, hk, run_v ?_, ⟨rfl, rfl, rfl⟩, rfl, ?_, ?_, hlt⟩
  · unfold Instr.makeSlice
    simp only [Sem.run_bind, run_underlying hd, Result.andThen_ok, hvl, hvc, asInt, asIntOf, Sem.run_pure, run_typeInfo hinf, hwl, hwc]
    rw [if_neg (by
      have e48 : (2 : Int) ^ 48 = 281474976710656 := rfl
      simp only [Bool.or_eq_true, decide_eq_true_eq, e48]; omega)]
    simp only [Sem.run_bind, run_askRoom, Result.andThen_ok, run_sizeOf hinf, hsz, Int.toNat_natCast]
    by_cases h0 : c * e.2.1 = 0
    · rw [if_pos h0] at hzs
      subst hzs
      simp only [h0, if_true, Sem.run_bind, Sem.run_pure, Result.andThen_ok]
      simp [newRow, zeroRow]
    · rw [if_neg h0] at hzs
      subst hzs
      simp only [h0, if_false, Sem.run_bind, run_zeroValue hi hzv, Sem.run_pure, Result.andThen_ok]
      simp [newRow, zeroRow]
  · simp only [VR]
    exact ⟨L, 0, c, Ren.put_same _ _ _, rfl, fun _ => rfl, Nat.le_refl _, hlc, fun _ => ⟨rfl, by show 0 + c * e.2.1 ≤ c * e.2.1; omega⟩⟩
  · refine BR_new rfl rfl hsize.symm (by omega) (fun o _ h => by simp at h) hmono (flats_of_allOne hmono (allOne_repeat h1 c)) (by rw [repeatL_length, hzl]; exact Nat.le_refl _) (fun i hi => ?_) (fun i hi => by simp)
    unfold cellOf
    rw [T.get_leaf, repeatL_get z c i (by rw [hzl]; exact hi)]

theorem part_ok {t : TypeId} {l : List AV} {cs : Array Value} (hl : VRs ρ l cs.toList) {off : Nat} {k : AV → Bool} (hk : partK P t l off k = true) (w : World) :
    ∃ b v, k b = true ∧ (part t cs off).run P w = .ok v w ∧ VR ρ b v := by
  unfold partK at hk
  split at hk
  · rename_i hty
    obtain ⟨d, i, hd, hagg, _, _⟩ := tyk_scalar hty
    obtain ⟨b, hb, hk⟩ := onSome_true (show onSome l[off]? k = true from hk)
    obtain ⟨v, hv, hr⟩ := hl.get off b hb
    refine ⟨b, v, hk, ?_, hr⟩
    have hv' : cs[off]? = some v := by simpa using hv
    simp [part, run_isAgg hd, hagg, hv']
  · rename_i m hty
    obtain ⟨d, i, hd, hagg, hi, hsz⟩ := tyk_agg hty
    obtain ⟨hle, hk⟩ := onTrue_true hk
    refine ⟨_, .agg (cs.extract off (off + m)), hk, by simp [part, run_isAgg hd, hagg, run_sizeOf hi, hsz], ?_⟩
    simp only [VR]
    refine ⟨_, rfl, ?_⟩
    have := (hl.drop off).take m
    rw [Array.toList_extract]
    simpa [List.extract_eq_take_drop] using this
  · cases hk

theorem opField_ok (s : Sit ρ h nx w E n r a) {t : TypeId} {x : Operand} {f : Nat} (hk : opField t x f P r h nx k = true) :
    QuietRes P (do pure (.value (← Instr.field t (a.eval x) f))) ρ h nx w k := by
  have hx := ev_ok s x
  unfold opField at hk
  split at hk
  · rename_i l hl
    rw [hl] at hx
    simp only [VR] at hx
    obtain ⟨cs, hx, hvs⟩ := hx
    obtain ⟨p, hp, hk⟩ := onSome_true hk
    unfold fieldTy at hp
    split at hp
    · rename_i fields hd
      simp only [Option.map_eq_some_iff] at hp
      obtain ⟨y, hy, rfl⟩ := hp
      obtain ⟨b, v, hk, hrun, hr⟩ := part_ok hvs hk w
      exact ⟨b, v, hk, run_v (by simp [Instr.field, run_underlying hd, hy, hx, asAgg, hrun]), hr⟩
    · cases hp
  · cases hk

theorem isString_true {t : TypeId} (h : isString P t = true) : P.underlying t = some .string := by
  unfold isString at h
  split at h
  · assumption
  · cases h

theorem opIndex_ok (s : Sit ρ h nx w E n r a) {t : TypeId} {x i : Operand} (hk : opIndex t x i P r h nx k = true) :
    QuietRes P (do pure (.value (← Instr.index t (a.eval x) (a.eval i)))) ρ h nx w k := by
  obtain ⟨kd, j', hj, hk1⟩ := AV.onInt_true (show (ev h r i).onInt _ = true from hk)
  clear hk
  obtain ⟨j, hj', hk⟩ := onNat_true hk1
  clear hk1
  subst hj'
  have hi := ev_ok s i
  rw [hj] at hi
  simp only [VR] at hi
  have hx := ev_ok s x
  split at hk
  · rename_i str hl
    rw [hl] at hx
    simp only [VR] at hx
    obtain ⟨hst, hk⟩ := onTrue_true hk
    obtain ⟨b, hb, hk⟩ := onSome_true hk
    have hd := isString_true hst
    refine ⟨_, .int .u8 b.toNat, hk, run_v ?_, by simp only [VR]⟩
    have hb' : (⟨⟨str⟩⟩ : ByteArray)[j]? = some b := by
      have hlt := (List.getElem?_eq_some_iff.1 hb).1
      have hlt' : j < (⟨⟨str⟩⟩ : ByteArray).size := hlt
      rw [getElem?_pos _ j hlt']
      have := (List.getElem?_eq_some_iff.1 hb).2
      exact congrArg some this
    simp [Instr.index, hi, asIntOf, run_underlying hd, hx, hb']
  · rename_i l hl
    rw [hl] at hx
    simp only [VR] at hx
    obtain ⟨cs, hx, hvs⟩ := hx
    obtain ⟨e, he, hk⟩ := onSome_true hk
    obtain ⟨inf, hd, hinf, hsz⟩ := arrayElem_some he
    obtain ⟨hlt, hk⟩ := onTrue_true hk
    have hlt' : j < e.1 := by simpa [Nat.blt_eq] using hlt
    obtain ⟨b, v, hk, hrun, hr⟩ := part_ok hvs hk w
    exact ⟨b, v, hk, run_v (by simp [Instr.index, hi, asIntOf, run_underlying hd, hx, hlt', run_sizeOf hinf, hsz, hrun]), hr⟩
  · cases hk
end

end Go.Proofs.YtfcoffpmcmhieaaGreatDoor.AI
namespace Go.Proofs.YtfcoffpmcmhieaaGreatDoor.AI
variable {P : Program}

theorem run_sliceBound (kd : IntKind) {m y : Nat} (h : m ≤ y) (code : BoundsCode) (w : World) : (Instr.sliceBound (.int kd (m : Int)) y code).run P w = .ok m w := by
  have : (0 : Int) ≤ (m : Int) ∧ (m : Int) ≤ (y : Int) := ⟨by omega, by omega⟩
  simp [Instr.sliceBound, asIntOf, this, h]

theorem run_bounds (isSlice : Bool) (len cap : Nat) {lo hi mx : Option Value} {l g m : Nat} (hm : (mx = none ∧ m = cap) ∨ ∃ kd, mx = some (.int kd (m : Int)) ∧ m ≤ cap)
    (hg : (hi = none ∧ g = len ∧ mx = none) ∨ ∃ kd, hi = some (.int kd (g : Int)) ∧ g ≤ m) (hl : (lo = none ∧ l = 0) ∨ ∃ kd, lo = some (.int kd (l : Int)) ∧ l ≤ g) (w : World) :
    (Instr.sliceBounds isSlice len cap lo hi mx).run P w = .ok (l, g, m) w := by
  unfold Instr.sliceBounds
  rcases hm with ⟨rfl, rfl⟩ | ⟨km, rfl, hm⟩
  · rcases hg with ⟨rfl, rfl, _⟩ | ⟨kg, rfl, hg⟩
    · rcases hl with ⟨rfl, rfl⟩ | ⟨kl, rfl, hl⟩
      · simp
      · simp [run_sliceBound kl hl]
    · rcases hl with ⟨rfl, rfl⟩ | ⟨kl, rfl, hl⟩
      · simp [run_sliceBound kg hg]
      · simp [run_sliceBound kg hg, run_sliceBound kl hl]
  · rcases hg with ⟨rfl, rfl, h⟩ | ⟨kg, rfl, hg⟩
    · cases h
    · rcases hl with ⟨rfl, rfl⟩ | ⟨kl, rfl, hl⟩
      · simp [run_sliceBound km hm, run_sliceBound kg hg]
      · simp [run_sliceBound km hm, run_sliceBound kg hg, run_sliceBound kl hl]

section
variable {ρ : Ren} {h : H} {nx : Nat} {w : World} {E : Nat → Option Obj} {n : Nat} {r : R} {a : Act} {k : K}

theorem boundK_true (s : Sit ρ h nx w E n r a) {x : Option Operand} {d : Nat} {k : Nat → Bool} (hk : boundK h r x d k = true) :
    ∃ m, k m = true ∧ ((x.map a.eval = none ∧ m = d) ∨ ∃ kd, x.map a.eval = some (.int kd (m : Int))) := by
  unfold boundK at hk
  split at hk
  · exact ⟨d, hk, .inl ⟨rfl, rfl⟩⟩
  · rename_i o
    obtain ⟨kd, i, hi, hk1⟩ := AV.onInt_true hk
    obtain ⟨m, hm, hk2⟩ := onNat_true hk1
    rw [forceN_eq] at hk2
    have hv := ev_ok s o
    rw [hi] at hv
    simp only [VR] at hv
    exact ⟨m, hk2, .inr ⟨kd, by simp [hv, hm]⟩⟩

theorem take_drop_extract (str : List UInt8) {l g : Nat} (_h1 : l ≤ g) (h2 : g ≤ str.length) : (⟨⟨str⟩⟩ : ByteArray).extract l g = ⟨⟨(str.take g).drop l⟩⟩ := by
  apply ByteArray.ext
  rw [ByteArray.data_extract]
  apply Array.ext'
  rw [Array.toList_extract, List.extract_eq_take_drop]
  simp only [List.take_drop]
  congr 2
  omega

theorem opSlice_ok (s : Sit ρ h nx w E n r a) {t : TypeId} {x : Operand} {lo hi mx : Option Operand} (hk : opSlice t x lo hi mx P r h nx k = true) :
    QuietRes P (do pure (.value (← Instr.sliceAt t (a.eval x) (lo.map a.eval) (hi.map a.eval) (mx.map a.eval)))) ρ h nx w k := by
  have hx := ev_ok s x
  unfold opSlice at hk
  split at hk
  · -- a string
    rename_i str hl
    rw [hl] at hx
    simp only [VR] at hx
    obtain ⟨hc, hk1⟩ := onTrue_true hk
    simp only [Bool.and_eq_true, Option.isNone_iff_eq_none] at hc
    obtain ⟨hst, rfl⟩ := hc
    have hd := isString_true hst
    obtain ⟨g, hk2, hg⟩ := boundK_true s hk1
    obtain ⟨l, hk3, hl'⟩ := boundK_true s hk2
    obtain ⟨hc2, hk4⟩ := onTrue_true hk3
    simp only [Bool.and_eq_true, decide_eq_true_eq] at hc2
    refine ⟨_, .string ((⟨⟨str⟩⟩ : ByteArray).extract l g), hk4, run_v ?_, by simp only [VR]; rw [take_drop_extract str hc2.1 hc2.2]⟩
    have hb := run_bounds (P := P) false (⟨⟨str⟩⟩ : ByteArray).size (⟨⟨str⟩⟩ : ByteArray).size (lo := lo.map a.eval) (hi := hi.map a.eval) (mx := none) (l := l) (g := g) (m := str.length) (.inl ⟨rfl, rfl⟩)
      (by rcases hg with ⟨h1, h2⟩ | ⟨kd, h1⟩
          · exact .inl ⟨h1, h2, rfl⟩
          · exact .inr ⟨kd, h1, hc2.2⟩)
      (by rcases hl' with ⟨h1, h2⟩ | ⟨kd, h1⟩
          · exact .inl ⟨h1, h2⟩
          · exact .inr ⟨kd, h1, hc2.1⟩) w
    simp [Instr.sliceAt, Instr.slice, run_underlying hd, hx, hb]
  · -- a slice
    rename_i b o len cap ex sz hl
    rw [hl] at hx
    simp only [VR] at hx
    obtain ⟨L, co, c, hL, hx, hex, hcap, hlen, hpos⟩ := hx
    obtain ⟨e, he, hk1⟩ := onSome_true hk
    obtain ⟨inf, hd, hinf, hsz, _⟩ := sliceElem_some he
    obtain ⟨hse, hk2⟩ := onTrue_true hk1
    have hse : e.2.1 = sz := by simpa using hse
    obtain ⟨g, hk3, hg⟩ := boundK_true s hk2
    obtain ⟨l, hk4, hl'⟩ := boundK_true s hk3
    -- what is common
    have fin : ∀ (m cap' : Nat) (ex' : Bool), l ≤ g → g ≤ cap' → cap' ≤ m → m ≤ c → (ex' = true → m = cap') →
        ((mx.map a.eval = none ∧ m = c) ∨ ∃ kd, mx.map a.eval = some (.int kd (m : Int)) ∧ m ≤ c) → (mx.map a.eval = none ∨ (hi.map a.eval).isSome = true) →
        k (.val (.slice b (o + l * sz) (g - l) (cap' - l) ex' sz) h nx) = true →
        QuietRes P (do pure (.value (← Instr.sliceAt t (a.eval x) (lo.map a.eval) (hi.map a.eval) (mx.map a.eval)))) ρ h nx w k := by
      intro m cap' ex' h1 h2 h3 h4 h5 h6 h7 hk
      have hb := run_bounds (P := P) true len c (lo := lo.map a.eval) (hi := hi.map a.eval) (mx := mx.map a.eval) (l := l) (g := g) (m := m) h6
        (by rcases hg with ⟨g1, g2⟩ | ⟨kd, g1⟩
            · rcases h7 with h7 | h7
              · exact .inl ⟨g1, g2, h7⟩
              · rw [g1] at h7; cases h7
            · exact .inr ⟨kd, g1, by omega⟩)
        (by rcases hl' with ⟨g1, g2⟩ | ⟨kd, g1⟩
            · exact .inl ⟨g1, g2⟩
            · exact .inr ⟨kd, g1, h1⟩) w
      refine ⟨_, .slice (some ⟨L.blk, if m = l then co else co + l * sz, none⟩) (g - l) (m - l), hk, run_v ?_, ?_⟩
      · by_cases hml : m = l
        · simp [Instr.sliceAt, Instr.slice, run_underlying hd, hx, hb, run_sizeOf hinf, hsz, hse, hml]
        · simp [Instr.sliceAt, Instr.slice, run_underlying hd, hx, hb, run_sizeOf hinf, hsz, hse, hml, Addr.add_mk]
      · simp only [VR]
        refine ⟨L, _, m - l, hL, rfl, fun h => by rw [h5 h], by omega, by omega, fun h => ?_⟩
        have hml : ¬ m = l := by omega
        obtain ⟨p1, p2⟩ := hpos (by omega)
        rw [if_neg hml]
        refine ⟨by rw [p1]; omega, ?_⟩
        have : l * sz + (m - l) * sz = m * sz := by rw [← Nat.add_mul]; congr 1; omega
        have h8 : m * sz ≤ c * sz := Nat.mul_le_mul_right sz h4
        omega
    split at hk4
    · -- no third index
      obtain ⟨hc2, hk5⟩ := onTrue_true hk4
      simp only [Bool.and_eq_true, decide_eq_true_eq] at hc2
      rw [forceN_eq, forceN_eq, forceN_eq] at hk5
      by_cases hexx : ex = true
      · exact fin c cap ex hc2.1 hc2.2 hcap (Nat.le_refl _) (fun _ => hex hexx) (.inl ⟨rfl, rfl⟩) (.inl rfl) hk5
      · exact fin c cap ex hc2.1 hc2.2 hcap (Nat.le_refl _) (fun h => absurd h hexx) (.inl ⟨rfl, rfl⟩) (.inl rfl) hk5
    · rename_i mo
      obtain ⟨kd, m', hm', hk5⟩ := AV.onInt_true hk4
      obtain ⟨m, hm, hk6⟩ := onNat_true hk5
      obtain ⟨hc2, hk7⟩ := onTrue_true hk6
      simp only [Bool.and_eq_true, decide_eq_true_eq] at hc2
      obtain ⟨⟨⟨hhi, c1⟩, c2⟩, c3⟩ := hc2
      rw [forceN_eq, forceN_eq, forceN_eq] at hk7
      have hv := ev_ok s mo
      rw [hm', hm] at hv
      simp only [VR] at hv
      exact fin m m true c1 c2 (Nat.le_refl _) (by omega) (fun _ => rfl) (.inr ⟨kd, by simp [hv], by omega⟩) (.inr (by simpa using hhi)) hk7
  · -- nil
    rename_i hl
    rw [hl] at hx
    simp only [VR] at hx
    obtain ⟨e, he, hk1⟩ := onSome_true hk
    obtain ⟨inf, hd, hinf, hsz, _⟩ := sliceElem_some he
    obtain ⟨g, hk2, hg⟩ := boundK_true s hk1
    obtain ⟨l, hk3, hl'⟩ := boundK_true s hk2
    obtain ⟨hc, hk4⟩ := onTrue_true hk3
    simp only [Bool.and_eq_true, decide_eq_true_eq, Option.isNone_iff_eq_none] at hc
    obtain ⟨⟨c1, c2⟩, rfl⟩ := hc
    have hg0 : g = 0 := by omega
    have hl0 : l = 0 := by omega
    subst hg0 hl0
    have hb := run_bounds (P := P) true 0 0 (lo := lo.map a.eval) (hi := hi.map a.eval) (mx := none) (l := 0) (g := 0) (m := 0) (.inl ⟨rfl, rfl⟩)
      (by rcases hg with ⟨h1, _⟩ | ⟨kd, h1⟩
          · exact .inl ⟨h1, rfl, rfl⟩
          · exact .inr ⟨kd, h1, Nat.le_refl _⟩)
      (by rcases hl' with ⟨h1, _⟩ | ⟨kd, h1⟩
          · exact .inl ⟨h1, rfl⟩
          · exact .inr ⟨kd, h1, Nat.le_refl _⟩) w
    exact ⟨_, .slice none 0 0, hk4, run_v (by simp [Instr.sliceAt, Instr.slice, run_underlying hd, hx, hb, run_sizeOf hinf]), by simp only [VR]⟩
  · -- an array's address
    rename_i b o hl
    rw [hl] at hx
    simp only [VR] at hx
    obtain ⟨L, hL, hx⟩ := hx
    obtain ⟨e, he, hk1⟩ := onSome_true hk
    obtain ⟨inf, hd, hinf, hsz⟩ := arrayElem_some he
    obtain ⟨g, hk2, hg⟩ := boundK_true s hk1
    obtain ⟨l, hk3, hl'⟩ := boundK_true s hk2
    obtain ⟨nn, tt, z, hb', hk4⟩ := Blk.onCells_true hk3
    obtain ⟨hc, hk5⟩ := onTrue_true hk4
    simp only [Bool.and_eq_true, decide_eq_true_eq, Option.isNone_iff_eq_none] at hc
    obtain ⟨⟨⟨c1, c2⟩, rfl⟩, c3⟩ := hc
    have hb := run_bounds (P := P) false e.1 e.1 (lo := lo.map a.eval) (hi := hi.map a.eval) (mx := none) (l := l) (g := g) (m := e.1) (.inl ⟨rfl, rfl⟩)
      (by rcases hg with ⟨h1, h2⟩ | ⟨kd, h1⟩
          · exact .inl ⟨h1, h2, rfl⟩
          · exact .inr ⟨kd, h1, c2⟩)
      (by rcases hl' with ⟨h1, h2⟩ | ⟨kd, h1⟩
          · exact .inl ⟨h1, h2⟩
          · exact .inr ⟨kd, h1, c1⟩) w
    obtain ⟨K, hK, hB, _⟩ := s.hs.liveL (by rw [hb']; simp) hL
    rw [hL] at hK; cases hK
    rw [hb'] at hB
    obtain ⟨c, ee, fr, g1, g2, g3, _⟩ := hB
    refine ⟨_, .slice (some ⟨L.blk, if e.1 = l then L.off + o else L.off + o + l * e.2.2, none⟩) (g - l) (e.1 - l), hk5, run_v ?_, ?_⟩
    · by_cases hml : e.1 = l
      · subst hml
        simp [Instr.sliceAt, run_underlying hd, hx, sureAddr_ptr, hb, run_sizeOf hinf, hsz]
      · simp [Instr.sliceAt, run_underlying hd, hx, sureAddr_ptr, hb, run_sizeOf hinf, hsz, hml, Addr.add_mk]
    · simp only [VR]
      refine ⟨L, _, e.1 - l, hL, rfl, fun _ => rfl, Nat.le_refl _, by omega, fun h => ?_⟩
      rw [if_neg (by omega)]
      refine ⟨by omega, ?_⟩
      have : l * e.2.2 + (e.1 - l) * e.2.2 = e.1 * e.2.2 := by rw [← Nat.add_mul]; congr 1; omega
      omega
  · cases hk

theorem opTypeAssert_ok (s : Sit ρ h nx w E n r a) {x : Operand} {t u : TypeId} {ok : Bool} (hk : opTypeAssert x t u ok P r h nx k = true) :
    QuietRes P (do pure (.value (← Instr.typeAssert (a.eval x) t u ok))) ρ h nx w k := by
  have hx := ev_ok s x
  unfold opTypeAssert at hk
  split at hk
  · cases hk
  · cases hk
  · rename_i d hni hd
    have zer : ∀ (z : AV), zeroOf P u = some z → ∃ zv, (zeroValue u).run P w = .ok zv w ∧ VR ρ z zv := by
      intro z hz
      obtain ⟨i, v, hi, hv, rfl⟩ := zeroOf_some hz
      exact ⟨v, run_zeroValue hi hv w, VR_ofV ρ v⟩
    split at hk
    · rename_i hl
      rw [hl] at hx
      simp only [VR] at hx
      obtain ⟨hok, hk1⟩ := onTrue_true hk
      obtain ⟨z, hz, hk2⟩ := onSome_true hk1
      obtain ⟨zv, hzr, hzv⟩ := zer z hz
      subst hok
      refine ⟨_, .tuple #[zv, .bool false], hk2, run_v ?_, ?_⟩
      · unfold Instr.typeAssert
        cases d <;> first | (simp [run_underlying hd, hx, hzr]; done) | exact absurd rfl (hni _)
      · simp only [VR]
        exact ⟨_, rfl, VRs_cons_cons.2 ⟨hzv, VRs_cons_cons.2 ⟨by simp only [VR], VRs_nil.2 rfl⟩⟩⟩
    · rename_i t' v hl
      rw [hl] at hx
      simp only [VR] at hx
      obtain ⟨cv, hx, hv⟩ := hx
      split at hk
      · rename_i heq
        subst heq
        refine ⟨_, if ok then .tuple #[cv, .bool true] else cv, hk, run_v ?_, ?_⟩
        · unfold Instr.typeAssert
          cases d <;> first | (cases ok <;> simp [run_underlying hd, hx]; done) | exact absurd rfl (hni _)
        · cases ok
          · simpa using hv
          · simp only [if_true, VR]
            exact ⟨_, rfl, VRs_cons_cons.2 ⟨hv, VRs_cons_cons.2 ⟨by simp only [VR], VRs_nil.2 rfl⟩⟩⟩
      · rename_i hne
        obtain ⟨hok, hk1⟩ := onTrue_true hk
        obtain ⟨z, hz, hk2⟩ := onSome_true hk1
        obtain ⟨zv, hzr, hzv⟩ := zer z hz
        subst hok
        refine ⟨_, .tuple #[zv, .bool false], hk2, run_v ?_, ?_⟩
        · unfold Instr.typeAssert
          cases d <;> first | (simp [run_underlying hd, hx, hzr, hne]; done) | exact absurd rfl (hni _)
        · simp only [VR]
          exact ⟨_, rfl, VRs_cons_cons.2 ⟨hzv, VRs_cons_cons.2 ⟨by simp only [VR], VRs_nil.2 rfl⟩⟩⟩
    · cases hk
end

end Go.Proofs.YtfcoffpmcmhieaaGreatDoor.AI
namespace Go.Proofs.YtfcoffpmcmhieaaGreatDoor.AI
variable {P : Program}

theorem pureRun_bind {α β : Type} (s : Sem α) (f : α → Sem β) : pureRun P (s >>= f) = (pureRun P s).bind fun a => pureRun P (f a) := by
  show pureRun P (s.bind f) = _
  induction s with
  | pure a => rfl
  | program k ih => exact ih P
  | mark m k ih => exact ih
  | _ => rfl

section
variable {ρ : Ren}

theorem EntR_nil {es : List MapEntry} : EntR ρ [] es ↔ es = [] := by
  constructor
  · rintro ⟨h, _⟩; exact List.eq_nil_of_length_eq_zero h
  · rintro rfl; exact ⟨rfl, fun i e he => by simp at he⟩
theorem EntR_cons {e : AV × AV} {l : List (AV × AV)} {es : List MapEntry} (h : EntR ρ (e :: l) es) : ∃ m r, es = m :: r ∧ VR ρ e.1 m.key ∧ VR ρ e.2 m.val ∧ EntR ρ l r := by
  obtain ⟨h1, h2⟩ := h
  match es, h1 with
  | m :: r, h1 =>
    obtain ⟨m', hm, k1, k2⟩ := h2 0 e rfl
    simp at hm; subst hm
    exact ⟨m, r, rfl, k1, k2, by simpa using h1, fun i x hx => h2 (i + 1) x (by simpa using hx)⟩

theorem keyEq_same {d : TypeDesc} {key b : AV} {ck cb : Value} (hk : VR ρ key ck) (hb : VR ρ b cb) {res : Bool} (he : keyEq key b = some res)
    (hd : (∃ k n, d = .int k ∧ key = .int k n) ∨ (∃ s, d = .string ∧ key = .str s) ∨ (∃ x, d = .bool ∧ key = .bool x)) : Instr.sameNow d ck cb = some res := by
  rcases hd with ⟨k, n, rfl, rfl⟩ | ⟨s, rfl, rfl⟩ | ⟨x, rfl, rfl⟩
  · cases b <;> simp only [keyEq] at he <;> first | (cases he; done) | skip
    split at he
    · rename_i heq
      cases he
      subst heq
      simp only [VR] at hk hb
      subst hk hb
      simp [Instr.sameNow]
    · cases he
  · cases b <;> simp only [keyEq] at he <;> first | (cases he; done) | skip
    cases he
    simp only [VR] at hk hb
    subst hk hb
    simp only [Instr.sameNow]
    congr 1
    rw [Bool.eq_iff_iff]
    show ((⟨_⟩ : Array UInt8) == ⟨_⟩) = true ↔ _
    simp
  · cases b <;> simp only [keyEq] at he <;> first | (cases he; done) | skip
    cases he
    simp only [VR] at hk hb
    subst hk hb
    simp [Instr.sameNow]

theorem findA_ok {d : TypeDesc} {key : AV} {ck : Value} (hk : VR ρ key ck) (hd : (∃ k n, d = .int k ∧ key = .int k n) ∨ (∃ s, d = .string ∧ key = .str s) ∨ (∃ x, d = .bool ∧ key = .bool x)) :
    ∀ {l : List (AV × AV)} {es : List MapEntry} {i : Nat} {res : Option Nat}, EntR ρ l es → findA key l i = some res →
      (res = none → Instr.findNow d ck es i = some none) ∧ (∀ j, res = some j → i ≤ j ∧ ∃ m : MapEntry, es[j - i]? = some m ∧ Instr.findNow d ck es i = some (some (j, m.val)))
  | [], es, i, res, he, hf => by
    rw [EntR_nil] at he; subst he
    simp only [findA, Option.some.injEq] at hf
    subst hf
    exact ⟨fun _ => rfl, fun j hj => by cases hj⟩
  | e :: l, es, i, res, he, hf => by
    obtain ⟨m, r, rfl, h1, h2, h3⟩ := EntR_cons he
    simp only [findA] at hf
    split at hf
    · rename_i hq
      have := keyEq_same hk h1 hq hd
      simp only [Option.some.injEq] at hf
      subst hf
      refine ⟨fun h => (by cases h), fun j hj => ?_⟩
      simp only [Option.some.injEq] at hj
      subst hj
      exact ⟨Nat.le_refl _, m, by simp, by simp [Instr.findNow, this]⟩
    · rename_i hq
      have := keyEq_same hk h1 hq hd
      obtain ⟨g1, g2⟩ := findA_ok hk hd h3 hf
      refine ⟨fun h => by simp [Instr.findNow, this, g1 h], fun j hj => ?_⟩
      obtain ⟨k1, m', k2, k3⟩ := g2 j hj
      refine ⟨by omega, m', ?_, by simp [Instr.findNow, this, k3]⟩
      rw [show j - i = (j - (i + 1)) + 1 from by omega]
      simpa using k2
    · cases hf

theorem plainKey_ok {kt : TypeId} {key : AV} (h : plainKey P kt key = true) : ∃ d, P.underlying kt = some d ∧
    ((∃ k n, d = .int k ∧ key = .int k n) ∨ (∃ s, d = .string ∧ key = .str s) ∨ (∃ x, d = .bool ∧ key = .bool x)) := by
  unfold plainKey at h
  split at h
  · rename_i k k' n hd
    have : k = k' := by simpa using h
    subst this
    exact ⟨_, hd, .inl ⟨_, _, rfl, rfl⟩⟩
  · rename_i s hd
    exact ⟨_, hd, .inr (.inl ⟨_, rfl, rfl⟩)⟩
  · rename_i x hd
    exact ⟨_, hd, .inr (.inr ⟨_, rfl, rfl⟩)⟩
  · cases h

/-- The search, told by its place alone. -/
def placed (es : List MapEntry) (i : Nat) : Option Nat → Option (Nat × Value)
  | none => none
  | some j => match es[j - i]? with | some m => some (j, m.val) | none => none

theorem findNow_map {d : TypeDesc} {ck : Value} : ∀ {es es' : List MapEntry} {i : Nat} {res : Option (Option (Nat × Value))}, es.map (·.key) = es'.map (·.key) → Instr.findNow d ck es' i = res →
    (res = none → Instr.findNow d ck es i = none) ∧ (∀ x, res = some x → Instr.findNow d ck es i = some (placed es i (x.map (·.1))) ∧ ∀ j, x.map (·.1) = some j → i ≤ j ∧ j < i + es.length)
  | [], es', i, res, he, hf => by
    have : es' = [] := by simpa using he.symm
    subst this
    subst hf
    exact ⟨fun h => by simp [Instr.findNow] at h, fun x hx => by simp [Instr.findNow] at hx; subst hx; exact ⟨rfl, fun j hj => by simp at hj⟩⟩
  | m :: es, [], i, res, he, hf => by simp at he
  | m :: es, m' :: es', i, res, he, hf => by
    simp only [List.map_cons, List.cons.injEq] at he
    simp only [Instr.findNow] at hf ⊢
    rw [he.1]
    cases hs : Instr.sameNow d ck m'.key with
    | none => rw [hs] at hf; simp only at hf ⊢; subst hf; exact ⟨fun _ => by simp, fun x hx => by cases hx⟩
    | some b =>
      rw [hs] at hf
      cases b with
      | true =>
        simp only at hf ⊢
        subst hf
        refine ⟨fun h => (by cases h), fun x hx => ?_⟩
        simp only [Option.some.injEq] at hx
        subst hx
        refine ⟨by simp [placed], fun j hj => ?_⟩
        simp at hj; subst hj
        simp
      | false =>
        simp only at hf ⊢
        obtain ⟨g1, g2⟩ := findNow_map he.2 hf
        refine ⟨g1, fun x hx => ?_⟩
        obtain ⟨k1, k2⟩ := g2 x hx
        rw [k1]
        refine ⟨?_, fun j hj => ?_⟩
        · cases hx' : x.map (·.1) with
          | none => rfl
          | some j =>
            obtain ⟨a1, a2⟩ := k2 j hx'
            simp only [placed]
            rw [show j - i = (j - (i + 1)) + 1 from by omega]; rfl
        · obtain ⟨a1, a2⟩ := k2 j hj
          simp only [List.length_cons]; omega

theorem findAsking_map {kt : TypeId} {ck : Value} {w : World} : ∀ {es es' : List MapEntry} {i : Nat} {x : Option (Nat × Value)}, es.map (·.key) = es'.map (·.key) → pureRun P (Instr.findAsking kt ck es' i) = some x →
    (Instr.findAsking kt ck es i).run P w = .ok (placed es i (x.map (·.1))) w ∧ ∀ j, x.map (·.1) = some j → i ≤ j ∧ j < i + es.length
  | [], es', i, x, he, hf => by
    have : es' = [] := by simpa using he.symm
    subst this
    simp only [Instr.findAsking] at hf ⊢
    have hf' : some (none : Option (Nat × Value)) = some x := hf
    simp only [Option.some.injEq] at hf'
    subst hf'
    exact ⟨rfl, fun j hj => by simp at hj⟩
  | m :: es, [], i, x, he, hf => by simp at he
  | m :: es, m' :: es', i, x, he, hf => by
    simp only [List.map_cons, List.cons.injEq] at he
    simp only [Instr.findAsking] at hf ⊢
    rw [pureRun_bind] at hf
    simp only [Option.bind_eq_some_iff] at hf
    obtain ⟨b, hb, hf⟩ := hf
    rw [he.1]
    simp only [Sem.run_bind, pureRun_run hb w, Result.andThen_ok]
    cases b with
    | true =>
      simp only [if_true] at hf ⊢
      have hf' : some (some (i, m'.val)) = some x := hf
      simp only [Option.some.injEq] at hf'
      subst hf'
      refine ⟨by simp [placed], fun j hj => ?_⟩
      simp at hj; subst hj; simp
    | false =>
      simp only [Bool.false_eq_true, if_false] at hf ⊢
      obtain ⟨k1, k2⟩ := findAsking_map (w := w) he.2 hf
      rw [k1]
      refine ⟨?_, fun j hj => ?_⟩
      · cases hx' : x.map (·.1) with
        | none => rfl
        | some j =>
          obtain ⟨a1, a2⟩ := k2 j hx'
          simp only [placed]
          rw [show j - i = (j - (i + 1)) + 1 from by omega]; rfl
      · obtain ⟨a1, a2⟩ := k2 j hj
        simp only [List.length_cons]; omega

theorem keys_of_EntR : ∀ {l : List (AV × AV)} {es : List MapEntry} {ks : List Value}, EntR ρ l es → l.mapM (fun e => toV e.1) = some ks → es.map (·.key) = ks
  | [], es, ks, he, hk => by
    rw [EntR_nil] at he; subst he
    simp at hk; subst hk; rfl
  | e :: l, es, ks, he, hk => by
    obtain ⟨m, r, rfl, h1, h2, h3⟩ := EntR_cons he
    simp only [List.mapM_cons, Option.bind_eq_bind, Option.bind_eq_some_iff, Option.pure_def, Option.some.injEq] at hk
    obtain ⟨v, hv, vs, hvs, rfl⟩ := hk
    simp only [List.map_cons]
    rw [keys_of_EntR h3 hvs, VR_toV h1 hv]

/-- What the model's search for a key comes to. -/
theorem keyIx_ok {chk : Bool} {kt : TypeId} {key : AV} {ck : Value} (hk : VR ρ key ck) {l : List (AV × AV)} {es : List MapEntry} (he : EntR ρ l es) {res : Option Nat} (hx : keyIx P chk kt key l = some res) (w : World) :
    (Instr.checkKey chk 10000 kt ck).run P w = .ok () w ∧ (Instr.findKey kt ck es).run P w = .ok (placed es 0 res) w ∧ ∀ j, res = some j → j < es.length := by
  unfold keyIx at hx
  split at hx
  · rename_i hp
    obtain ⟨d, hd, hcase⟩ := plainKey_ok hp
    obtain ⟨g1, g2⟩ := findA_ok hk hcase he hx
    refine ⟨?_, ?_, ?_⟩
    · show (Instr.checkKey chk (9999 + 1) kt ck).run P w = _
      unfold Instr.checkKey
      rcases hcase with ⟨k, n, rfl, rfl⟩ | ⟨s, rfl, rfl⟩ | ⟨x, rfl, rfl⟩ <;>
        (simp only [VR] at hk; subst hk; simp [run_underlying hd])
    · unfold Instr.findKey
      simp only [Sem.run_bind, run_underlying hd, Result.andThen_ok]
      cases res with
      | none => rw [g1 rfl]; rfl
      | some j =>
        obtain ⟨_, m, hm, hf⟩ := g2 j rfl
        rw [hf]
        simp only [placed, Nat.sub_zero] at hm ⊢
        rw [hm]; rfl
    · intro j hj
      obtain ⟨_, m, hm, _⟩ := g2 j hj
      exact (List.getElem?_eq_some_iff.1 (by simpa using hm)).1
  · unfold findSlow at hx
    simp only [Option.bind_eq_some_iff] at hx
    obtain ⟨kv, hkv, ks, hks, hx⟩ := hx
    have hck := VR_toV hk hkv
    subst hck
    rw [pureRun_bind] at hx
    simp only [Option.bind_eq_some_iff] at hx
    obtain ⟨_, h1, hx⟩ := hx
    rw [pureRun_bind] at hx
    simp only [Option.bind_eq_some_iff] at hx
    obtain ⟨r', h2, hx⟩ := hx
    have hx' : some (r'.map (·.1)) = some res := hx
    simp only [Option.some.injEq] at hx'
    subst hx'
    have hkeys : es.map (·.key) = (ks.map fun v => ({ key := v, val := .bool false, born := 0 } : MapEntry)).map (·.key) := by
      rw [keys_of_EntR he hks]; simp [Function.comp_def]
    unfold Instr.findKey at h2 ⊢
    rw [pureRun_bind] at h2
    simp only [Option.bind_eq_some_iff] at h2
    obtain ⟨d, hd, h2⟩ := h2
    have hdr := pureRun_run hd w
    refine ⟨pureRun_run h1 w, ?_⟩
    simp only [Sem.run_bind, hdr, Result.andThen_ok]
    split at h2
    · rename_i x hfx
      have h2' : some x = some r' := h2
      simp only [Option.some.injEq] at h2'
      subst h2'
      obtain ⟨_, g2⟩ := findNow_map hkeys hfx
      obtain ⟨k1, k2⟩ := g2 x rfl
      rw [k1]
      exact ⟨rfl, fun j hj => by have := (k2 j hj).2; omega⟩
    · rename_i hfx
      obtain ⟨g1, _⟩ := findNow_map hkeys hfx
      rw [g1 rfl]
      obtain ⟨k1, k2⟩ := findAsking_map (w := w) hkeys h2
      exact ⟨k1, fun j hj => by have := (k2 j hj).2; omega⟩
end

section
variable {ρ : Ren} {h : H} {nx : Nat} {w : World} {E : Nat → Option Obj} {n : Nat} {r : R} {a : Act} {k : K}

theorem HS.map (s : HS ρ h nx w.heap E) {b : Nat} {L : Loc} {l : List (AV × AV)} {ver : Nat} (hb : h.get b = .map l ver) (hL : ρ b = some L) :
    ∃ es clock, w.heap[L.blk]? = some (.map es clock) ∧ EntR ρ l es.toList ∧ (es.toList.map (·.born)).Nodup ∧ ∀ m ∈ es.toList, m.born < clock := by
  obtain ⟨K, hK, hB, _⟩ := s.liveL (by rw [hb]; simp) hL
  rw [hL] at hK; cases hK
  rw [hb] at hB
  exact hB

theorem run_getObj_map {w : World} {b : Nat} {es : Array MapEntry} {clock : Nat} (h : w.heap[b]? = some (.map es clock)) : (getObj b).run P w = .ok (.map es clock) w := by
  simp [getObj, Sem.run, h]
theorem run_setObj_map {w : World} {b : Nat} {es : Array MapEntry} {clock : Nat} (o : Obj) (h : w.heap[b]? = some (.map es clock)) : (setObj b o).run P w = .ok () { w with heap := w.heap.setIfInBounds b o } := by
  simp [setObj, Sem.run, h]

theorem lookOut_ok {ok : Bool} {v : AV} {cv : Value} {b : Bool} (hv : VR ρ v cv) : VR ρ (if ok then .tup [v, .bool b] else v) (if ok then .tuple #[cv, .bool b] else cv) := by
  cases ok
  · exact hv
  · simp only [if_true, VR]
    exact ⟨_, rfl, VRs_cons_cons.2 ⟨hv, VRs_cons_cons.2 ⟨by simp only [VR], VRs_nil.2 rfl⟩⟩⟩

theorem opLookup_ok (s : Sit ρ h nx w E n r a) {t : TypeId} {x i : Operand} {ok : Bool} (hk : opLookup t x i ok P r h nx k = true) :
    QuietRes P (do pure (.value (← Instr.lookup t (a.eval x) (a.eval i) ok))) ρ h nx w k := by
  obtain ⟨ke, hke, hk1⟩ := onSome_true (show onSome (mapKind P t) _ = true from hk)
  obtain ⟨z, hz, hk2⟩ := onSome_true hk1
  have hd := mapKind_some hke
  obtain ⟨inf, zv, hinf, hzv, rfl⟩ := zeroOf_some hz
  have hx := ev_ok s x
  split at hk2
  · rename_i hl
    rw [hl] at hx
    simp only [VR] at hx
    obtain ⟨f, hf, hk3⟩ := onSome_true hk2
    obtain ⟨g1, g2, g3⟩ := keyIx_ok (ev_ok s i) (EntR_nil.2 rfl : EntR ρ [] []) hf w
    have hf0 : f = none := by
      cases f with
      | none => rfl
      | some j => exact absurd (g3 j rfl) (by simp)
    subst hf0
    refine ⟨_, _, hk3, run_v (v := if ok then .tuple #[zv, .bool false] else zv) ?_, lookOut_ok (VR_ofV ρ zv)⟩
    unfold Instr.lookup
    simp [run_underlying hd, hx, g1, g2, placed, run_zeroValue hinf hzv]
  · rename_i b hl
    rw [hl] at hx
    simp only [VR] at hx
    obtain ⟨L, hL, hx⟩ := hx
    obtain ⟨l, ver, hb, hk3⟩ := onMap_true hk2
    obtain ⟨f, hf, hk4⟩ := onSome_true hk3
    obtain ⟨es, clock, e1, e2, e3, e4⟩ := s.hs.map hb hL
    have hemp : l.isEmpty = es.isEmpty := by
      have := e2.1
      cases l <;> cases es <;> simp_all [Array.isEmpty]
    obtain ⟨g1, g2, g3⟩ := keyIx_ok (ev_ok s i) e2 hf w
    rw [hemp] at g1
    cases f with
    | none =>
      refine ⟨_, _, hk4, run_v (v := if ok then .tuple #[zv, .bool false] else zv) ?_, lookOut_ok (VR_ofV ρ zv)⟩
      unfold Instr.lookup
      simp [run_underlying hd, hx, run_getObj_map e1, g1, g2, placed, run_zeroValue hinf hzv]
    | some j =>
      obtain ⟨e, he, hk5⟩ := onSome_true (show onSome l[j]? _ = true from hk4)
      obtain ⟨m, hm, _, hv⟩ := e2.2 j e he
      refine ⟨_, _, hk5, run_v (v := if ok then .tuple #[m.val, .bool true] else m.val) ?_, lookOut_ok hv⟩
      have hm' : es[j]? = some m := by simpa using hm
      unfold Instr.lookup
      simp [run_underlying hd, hx, run_getObj_map e1, g1, g2, placed, hm']
  · cases hk2
end

end Go.Proofs.YtfcoffpmcmhieaaGreatDoor.AI
