/- The abstract interpreter: each operation does what the model does, continued. -/
import Derived.Test.YtfcoffpmcmhieaaGreatDoorA2
import Derived.Laws.BytesString
import Derived.Laws.BytesArg
import Derived.Lib.ConvBytes
import Derived.Deep.AppendSrc
set_option linter.unusedVariables false
set_option linter.unusedSimpArgs false
namespace Go.Proofs.YtfcoffpmcmhieaaGreatDoor.AI
variable {P : Program}

theorem setIf_heap {w : World} {b : Nat} {o o' : Obj} (h : w.heap[b]? = some o) : (w.heap.setIfInBounds b o').size = w.heap.size ∧ (∀ j, j ≠ b → (w.heap.setIfInBounds b o')[j]? = w.heap[j]?) ∧ (w.heap.setIfInBounds b o')[b]? = some o' := by
  have hlt := (Array.getElem?_eq_some_iff.1 h).1
  exact ⟨by simp, fun j hj => by simp [Array.getElem?_setIfInBounds_ne (Ne.symm hj)], by simp [hlt]⟩

section
variable {ρ : Ren}

theorem EntR_set {l : List (AV × AV)} {es : Array MapEntry} (h : EntR ρ l es.toList) {i : Nat} {e : AV × AV} {ck cv : Value} (hk : VR ρ e.1 ck) (hv : VR ρ e.2 cv) :
    EntR ρ (l.set i e) (es.modify i fun m => { m with key := ck, val := cv }).toList := by
  refine ⟨by simpa using h.1, fun j x hx => ?_⟩
  rw [List.getElem?_set] at hx
  by_cases hij : i = j
  · subst hij
    rw [if_pos rfl] at hx
    split at hx
    · rename_i hlt
      cases hx
      have hlt' : i < es.size := by have := h.1; simp at this; omega
      refine ⟨{ es[i] with key := ck, val := cv }, ?_, hk, hv⟩
      simp [Array.getElem?_modify, hlt']
    · cases hx
  · rw [if_neg hij] at hx
    obtain ⟨m, hm, h1, h2⟩ := h.2 j x hx
    refine ⟨m, ?_, h1, h2⟩
    have hm' : es[j]? = some m := by simpa using hm
    simp [Array.getElem?_modify, hij, hm']

theorem EntR_push {l : List (AV × AV)} {es : Array MapEntry} (h : EntR ρ l es.toList) {e : AV × AV} {m : MapEntry} (hk : VR ρ e.1 m.key) (hv : VR ρ e.2 m.val) :
    EntR ρ (l ++ [e]) (es.push m).toList := by
  refine ⟨by simpa using h.1, fun j x hx => ?_⟩
  have hl := h.1
  simp only [Array.toList_push]
  by_cases hj : j < l.length
  · rw [List.getElem?_append_left hj] at hx
    obtain ⟨m', hm, h1, h2⟩ := h.2 j x hx
    exact ⟨m', by rw [List.getElem?_append_left (by omega)]; exact hm, h1, h2⟩
  · rw [List.getElem?_append_right (by omega)] at hx
    have hj' : j - l.length = 0 := by
      have := (List.getElem?_eq_some_iff.1 hx).1
      simp at this; omega
    rw [hj'] at hx
    simp at hx
    subst hx
    refine ⟨m, ?_, hk, hv⟩
    rw [List.getElem?_append_right (by omega), hl, hj']; rfl

theorem borns_modify (es : Array MapEntry) (i : Nat) (ck cv : Value) : (es.modify i fun m => { m with key := ck, val := cv }).toList.map (·.born) = es.toList.map (·.born) := by
  apply List.ext_getElem?
  intro j
  simp only [List.getElem?_map, Array.getElem?_toList, Array.getElem?_modify]
  by_cases hij : i = j
  · subst hij
    cases es[i]? <;> simp
  · simp [hij]

theorem IterR_modify {es : Array MapEntry} {clock since : Nat} {seen : Array Nat} {stepped : Nat} {left : List Nat} {cur : Option Nat} (h : IterR es clock since seen stepped left cur) (i : Nat) (ck cv : Value) :
    IterR (es.modify i fun m => { m with key := ck, val := cv }) clock since seen stepped left cur := by
  have key : ∀ (j : Nat) (m : MapEntry), (es.modify i fun m => { m with key := ck, val := cv })[j]? = some m → ∃ m' : MapEntry, es[j]? = some m' ∧ m'.born = m.born := by
    intro j m hm
    rw [Array.getElem?_modify] at hm
    by_cases hij : i = j
    · rw [if_pos hij] at hm
      simp only [Option.map_eq_some_iff] at hm
      obtain ⟨m', hm', rfl⟩ := hm
      exact ⟨m', hm', rfl⟩
    · rw [if_neg hij] at hm
      exact ⟨m, hm, rfl⟩
  refine ⟨h.since_eq, h.stepped_eq, h.nodup, fun j hj => by simpa using h.lt j hj, fun j m hm => ?_, fun j hj => ?_⟩
  · obtain ⟨m', hm', hb⟩ := key j m hm
    rw [← hb]; exact h.seen_iff j m' hm'
  · obtain ⟨m, hm, hb⟩ := h.cur_eq j hj
    by_cases hij : i = j
    · exact ⟨{ m with key := ck, val := cv }, by rw [Array.getElem?_modify, if_pos hij, hm]; rfl, hb⟩
    · exact ⟨m, by rw [Array.getElem?_modify, if_neg hij]; exact hm, hb⟩
end

section
variable {ρ : Ren} {h : H} {nx : Nat} {w : World} {E : Nat → Option Obj} {n : Nat} {r : R} {a : Act} {k : K}

theorem opMapUpdate_ok (s : Sit ρ h nx w E n r a) {t : TypeId} {m y v : Operand} (hk : opMapUpdate t m y v P r h nx k = true) :
    ActRes P (do Instr.mapUpdate t (a.eval m) (a.eval y) (a.eval v); pure .skip) ρ nx w E k := by
  obtain ⟨ke, hke, hk1⟩ := onSome_true (show onSome (mapKind P t) _ = true from hk)
  have hd := mapKind_some hke
  have hm := ev_ok s m
  have hy := ev_ok s y
  have hv := ev_ok s v
  split at hk1
  · rename_i b hl
    rw [hl] at hm
    simp only [VR] at hm
    obtain ⟨L, hL, hm⟩ := hm
    obtain ⟨l, ver, hb, hk2⟩ := onMap_true hk1
    obtain ⟨f, hf, hk3⟩ := onSome_true hk2
    obtain ⟨es, clock, e1, e2, e3, e4⟩ := s.hs.map hb hL
    obtain ⟨g1, g2, g3⟩ := keyIx_ok hy e2 hf w
    have hlive : h.get b ≠ .dead := by rw [hb]; simp
    cases f with
    | none =>
      rw [H.setK_eq] at hk3
      have hk4 : k (.val (.tup []) (h.set b (.map (l ++ [(ev h r y, ev h r v)]) (ver + 1))) nx) = true := hk3
      let o' : Obj := .map (es.push { key := a.eval y, val := a.eval v, born := clock }) (clock + 1)
      obtain ⟨p1, p2, p3⟩ := setIf_heap (o' := o') e1
      refine ⟨_, _, _, undef, .skip, { w with heap := w.heap.setIfInBounds L.blk o' }, ρ, hk4, run_u ?_, .inr ⟨rfl, rfl⟩, Ren.ext_refl nx ρ, Nat.le_refl nx, SO.other (b := L.blk) (by rw [e1]; intro c t fr h; cases h) p2 rfl rfl, VR_undef, ?_⟩
      · unfold Instr.mapUpdate
        simp [run_underlying hd, hm, run_getObj_map e1, g1, g2, placed, run_setObj_map _ e1, o']
      · refine s.hs.turn hlive hL p1 p2 (fun _ => ⟨_, _, p3, EntR_push e2 hy hv, ?_, ?_⟩) ?_
        · simp only [Array.toList_push, List.map_append, List.map_cons, List.map_nil]
          rw [List.nodup_append]
          refine ⟨e3, by simp, fun x hx z hz => ?_⟩
          simp only [List.mem_map] at hx
          obtain ⟨q, hq, rfl⟩ := hx
          simp only [List.mem_singleton] at hz
          have := e4 q hq
          omega
        · intro q hq
          simp only [Array.toList_push, List.mem_append, List.mem_singleton] at hq
          rcases hq with hq | rfl
          · have := e4 q hq; omega
          · simp
        · intro j mm ver' left cur Lj l' v' hji hg hmi hbb hLj hB
          rw [hg] at hB ⊢
          subst hmi
          obtain ⟨Lm, since, seen, stepped, q0, q1, q2, q3⟩ := hB
          have hne := s.hs.inj j mm Lj L (by rw [hg]; simp) hlive hji hLj hL
          refine ⟨Lm, since, seen, stepped, q0, q1, by rw [p2 _ hne]; exact q2, fun l'' v'' hl'' => ?_⟩
          rw [H.get_set_same] at hl''
          cases hl''
          obtain ⟨r1, _⟩ := q3 l ver hb
          exact ⟨by omega, fun hv => by omega⟩
    | some j =>
      obtain ⟨hst, hk4⟩ := onTrue_true hk3
      rw [H.setK_eq] at hk4
      have hk5 : k (.val (.tup []) (h.set b (.map (l.set j (ev h r y, ev h r v)) ver)) nx) = true := hk4
      have hjl : j < es.size := by have := g3 j rfl; simpa using this
      have hjl' : j < l.length := by have := e2.1; simp at this; omega
      obtain ⟨mj, hmj, hkj, _⟩ := e2.2 j l[j] (List.getElem?_eq_getElem hjl')
      have hmj' : es[j]? = some mj := by simpa using hmj
      -- the key that stays
      have hstay : Instr.sameBits 10000 mj.key (a.eval y) = true := by
        unfold staysA at hst
        rw [List.getElem?_eq_getElem hjl'] at hst
        simp only [Option.bind_some] at hst
        split at hst
        · rename_i p q hp hq
          rw [VR_toV hy hp, VR_toV hkj hq]; exact hst
        · cases hst
      let o' : Obj := .map (es.modify j fun m => { m with key := a.eval y, val := a.eval v }) clock
      obtain ⟨p1, p2, p3⟩ := setIf_heap (o' := o') e1
      refine ⟨_, _, _, undef, .skip, { w with heap := w.heap.setIfInBounds L.blk o' }, ρ, hk5, run_u ?_, .inr ⟨rfl, rfl⟩, Ren.ext_refl nx ρ, Nat.le_refl nx, SO.other (b := L.blk) (by rw [e1]; intro c t fr h; cases h) p2 rfl rfl, VR_undef, ?_⟩
      · unfold Instr.mapUpdate
        simp [run_underlying hd, hm, run_getObj_map e1, g1, g2, placed, hmj', Instr.keyThatStays, hstay, run_setObj_map _ e1, o']
      · refine s.hs.turn hlive hL p1 p2 (fun _ => ⟨_, _, p3, EntR_set e2 hy hv, by rw [borns_modify]; exact e3, ?_⟩) ?_
        · intro q hq
          have hqb : q.born ∈ es.toList.map (·.born) := by
            rw [← borns_modify es j (a.eval y) (a.eval v)]
            exact List.mem_map.2 ⟨q, hq, rfl⟩
          obtain ⟨q', hq', hqe⟩ := List.mem_map.1 hqb
          rw [← hqe]; exact e4 q' hq'
        · intro i mm ver' left cur Lj l' v' hji hg hmi hbb hLj hB
          rw [hg] at hB ⊢
          subst hmi
          obtain ⟨Lm, since, seen, stepped, q0, q1, q2, q3⟩ := hB
          have hne := s.hs.inj i mm Lj L (by rw [hg]; simp) hlive hji hLj hL
          refine ⟨Lm, since, seen, stepped, q0, q1, by rw [p2 _ hne]; exact q2, fun l'' v'' hl'' => ?_⟩
          rw [H.get_set_same] at hl''
          cases hl''
          obtain ⟨r1, r2⟩ := q3 l ver hb
          refine ⟨r1, fun hv es' clock' he' => ?_⟩
          rw [hL] at q1; cases q1
          rw [p3] at he'
          simp only [o', Option.some.injEq, Obj.map.injEq] at he'
          obtain ⟨rfl, rfl⟩ := he'
          exact IterR_modify (r2 hv es clock e1) j _ _
  · cases hk1

theorem opRange_ok (s : Sit ρ h nx w E n r a) {t : TypeId} {x : Operand} (hk : opRange t x P r h nx k = true) :
    MakeRes P (do pure (.value (← Instr.range t (a.eval x)))) ρ h nx w k := by
  obtain ⟨ke, hke, hk1⟩ := onSome_true (show onSome (mapKind P t) _ = true from hk)
  have hd := mapKind_some hke
  have hx := ev_ok s x
  split at hk1
  · rename_i b hl
    rw [hl] at hx
    simp only [VR] at hx
    obtain ⟨L, hL, hx⟩ := hx
    obtain ⟨l, ver, hb, hk2⟩ := onMap_true hk1
    obtain ⟨hlt, hk3⟩ := newB_true hk2
    obtain ⟨es, clock, e1, e2, e3, e4⟩ := s.hs.map hb hL
    have hbn : b ≠ nx := fun e => by subst e; rw [s.hs.fresh] at hL; cases hL
    have hLlt : L.blk < w.heap.size := (Array.getElem?_eq_some_iff.1 e1).1
    refine ⟨_, .pointer (some ⟨w.heap.size, 0, none⟩), _, .mapIter (some L.blk) clock #[] clock, ⟨w.heap.size, 0, 0⟩, { w with heap := w.heap.push (.mapIter (some L.blk) clock #[] clock) }, hk3, run_v ?_, ⟨rfl, rfl, rfl⟩, rfl, ?_, ?_, hlt⟩
    · unfold Instr.range
      simp [run_underlying hd, hx, run_getObj_map e1]
    · simp only [VR]; exact ⟨_, Ren.put_same _ _ _, rfl⟩
    · refine ⟨L, clock, #[], clock, rfl, hL, by simp, fun l' v' hl' => ?_⟩
      rw [hb] at hl'
      cases hl'
      refine ⟨Nat.le_refl _, fun _ es' clock' he' => ?_⟩
      have he'' : w.heap[L.blk]? = some (.map es' clock') := by
        rw [Array.getElem?_push, if_neg (by omega)] at he'; exact he'
      rw [e1] at he''
      cases he''
      refine ⟨rfl, rfl, List.nodup_range, fun i hi => ?_, fun i m hm => ?_, fun i hi => by cases hi⟩
      · have := List.mem_range.1 hi; have := e2.1; simp at this; omega
      · constructor
        · intro _; simp
        · intro _
          have := (Array.getElem?_eq_some_iff.1 hm).1
          have := e2.1; simp at this
          exact List.mem_range.2 (by omega)
  · cases hk1
end

end Go.Proofs.YtfcoffpmcmhieaaGreatDoor.AI
namespace Go.Proofs.YtfcoffpmcmhieaaGreatDoor.AI
variable {P : Program}

section
variable {ρ : Ren} {h : H} {nx : Nat} {w : World} {E : Nat → Option Obj} {n : Nat} {r : R} {a : Act} {k : K}

theorem HS.iter (s : HS ρ h nx w.heap E) {b : Nat} {L : Loc} {m ver : Nat} {left : List Nat} {cur : Option Nat} (hb : h.get b = .iter m ver left cur) (hL : ρ b = some L) {l : List (AV × AV)} (hm : h.get m = .map l ver) :
    ∃ Lm es clock seen, L.off = 0 ∧ ρ m = some Lm ∧ w.heap[L.blk]? = some (.mapIter (some Lm.blk) clock seen clock) ∧ w.heap[Lm.blk]? = some (.map es clock) ∧ EntR ρ l es.toList ∧ (es.toList.map (·.born)).Nodup ∧
      (∀ m ∈ es.toList, m.born < clock) ∧ IterR es clock clock seen clock left cur := by
  obtain ⟨K, hK, hB, _⟩ := s.liveL (by rw [hb]; simp) hL
  rw [hL] at hK; cases hK
  rw [hb] at hB
  obtain ⟨Lm, since, seen, stepped, h0, h1, h2, h3⟩ := hB
  obtain ⟨es, clock, e1, e2, e3, e4⟩ := s.map hm h1
  have hI := (h3 l ver hm).2 rfl es clock e1
  have i1 := hI.since_eq
  have i2 := hI.stepped_eq
  subst i1
  subst i2
  exact ⟨Lm, es, _, seen, h0, h1, h2, e1, e2, e3, e4, hI⟩

theorem opEntry_ok (s : Sit ρ h nx w E n r a) {x : Operand} (hk : opEntry x P r h nx k = true) :
    QuietRes P (do pure (.value (← Instr.entry (a.eval x)))) ρ h nx w k := by
  obtain ⟨b, o, hl, hk1⟩ := AV.onPtr_true (show (ev h r x).onPtr _ = true from hk)
  obtain ⟨ho, hk2⟩ := onTrue_true hk1
  have ho : o = 0 := by simpa using ho
  have hx := ev_ok s x
  rw [hl] at hx
  simp only [VR] at hx
  obtain ⟨L, hL, hx⟩ := hx
  split at hk2
  · rename_i m ver left i hb
    obtain ⟨l, ver', hm, hk3⟩ := onMap_true hk2
    obtain ⟨hv, hk4⟩ := onTrue_true hk3
    have hv : ver = ver' := by simpa using hv
    subst hv
    obtain ⟨e, he, hk5⟩ := onSome_true hk4
    obtain ⟨Lm, es, clock, seen, h0, h1, h2, e1, e2, e3, e4, hI⟩ := s.hs.iter hb hL hm
    obtain ⟨me, hme, hback⟩ := hI.cur_eq i rfl
    obtain ⟨m', hm', hk', hv'⟩ := e2.2 i e he
    have hm'' : es[i]? = some m' := by simpa using hm'
    rw [hme] at hm''; cases hm''
    subst ho
    rw [h0] at hx
    have hfind : es.find? (fun q => q.born == me.born) = some me := by
      rw [Array.find?_eq_some_iff_getElem]
      obtain ⟨hilt, hie⟩ := Array.getElem?_eq_some_iff.1 hme
      refine ⟨by simp, i, hilt, hie, fun j hj => ?_⟩
      simp only [Bool.not_eq_eq_eq_not, Bool.not_true, beq_eq_false_iff_ne, ne_eq]
      intro heq
      have hj' : j < es.size := by omega
      have := (List.pairwise_iff_getElem.1 e3) j i (by simpa using hj') (by simpa using hilt) hj
      apply this
      simp only [List.getElem_map, Array.getElem_toList]
      rw [hie, heq]
    refine ⟨_, .tuple #[me.key, me.val], hk5, run_v ?_, ?_⟩
    · unfold Instr.entry
      simp [hx, getObj, Sem.run, h2, hback, e1, hfind]
    · simp only [VR]
      exact ⟨_, rfl, VRs_cons_cons.2 ⟨hk', VRs_cons_cons.2 ⟨hv', VRs_nil.2 rfl⟩⟩⟩
  · cases hk2

theorem run_choose_mapNext (m : Nat) (w : World) (hm : 0 < m) : ∃ j w', (choose (.mapNext m)).run P w = .ok j w' ∧ j < m ∧ w'.heap = w.heap ∧ w'.os = w.os ∧ w'.output = w.output := by
  simp only [run_choose]
  by_cases hf : (Question.mapNext m).forced = true
  · rw [if_pos hf]
    exact ⟨0, w, rfl, hm, rfl, rfl, rfl⟩
  · rw [if_neg hf]
    exact ⟨_, _, rfl, by simp only [Question.cut]; exact Nat.mod_lt _ hm, rfl, rfl, rfl⟩

theorem opNext_ok (s : Sit ρ h nx w E n r a) {x : Operand} {t : TypeId} {str : Bool} (hk : opNext x str P r h nx k = true) :
    ActRes P (do pure (.value (← Instr.next (a.eval x) str t))) ρ nx w E k := by
  obtain ⟨hstr, hk0⟩ := onTrue_true (show onTrue (!str) _ = true from hk)
  have hstr : str = false := by simpa using hstr
  obtain ⟨b, o, hl, hk1⟩ := AV.onPtr_true hk0
  obtain ⟨ho, hk2⟩ := onTrue_true hk1
  have ho : o = 0 := by simpa using ho
  have hx := ev_ok s x
  rw [hl] at hx
  simp only [VR] at hx
  obtain ⟨L, hL, hx⟩ := hx
  subst hstr ho
  split at hk2
  · rename_i m ver left cur hb
    obtain ⟨l, ver', hm, hk3⟩ := onMap_true hk2
    obtain ⟨hv, hk4⟩ := onTrue_true hk3
    have hv : ver = ver' := by simpa using hv
    subst hv
    obtain ⟨Lm, es, clock, seen, h0, h1, h2, e1, e2, e3, e4, hI⟩ := s.hs.iter hb hL hm
    rw [h0] at hx
    -- nothing is lost of the map
    have hnolost : (!seen.isEmpty && !es.isEmpty && es.all (fun q => decide (q.born ≥ clock))) = false := by
      by_cases he : es.isEmpty = true
      · simp [he]
      · have hpos : 0 < es.size := by
          rcases Nat.eq_zero_or_pos es.size with h' | h'
          · exact absurd (by simp [Array.isEmpty, h']) he
          · exact h'
        have : es.all (fun q => decide (q.born ≥ clock)) = false := by
          rw [Bool.eq_false_iff]
          intro hall
          rw [Array.all_eq_true] at hall
          have h3 := hall 0 hpos
          have h4 := e4 es[0] (by simp)
          simp at h3
          omega
        simp [this]
    have hold : ((es.filter fun q => !seen.contains q.born).filter fun q => decide (q.born < clock)) = es.filter fun q => !seen.contains q.born := by
      rw [Array.filter_eq_self]
      intro q hq
      have := (Array.mem_filter.1 hq).1
      simpa using e4 q (by simpa using this)
    have hnew : ((es.filter fun q => !seen.contains q.born).filter fun q => decide (q.born ≥ clock)) = #[] := by
      rw [Array.filter_eq_empty_iff]
      intro q hq
      have := (Array.mem_filter.1 hq).1
      have := e4 q (by simpa using this)
      simp; omega
    generalize hc : (es.filter fun q => !seen.contains q.born) = cand at hold hnew
    have hmem : ∀ q : MapEntry, q ∈ cand ↔ q ∈ es ∧ q.born ∉ seen := by
      intro q
      rw [← hc, Array.mem_filter]
      simp
    let C : Array (Option MapEntry) := (if cand.isEmpty = true then #[none] else #[]) ++ Array.map some (cand ++ #[])
    have hrun : (Instr.next (a.eval x) false t).run P w = ((choose (.mapNext C.size)).run P w).andThen fun j w' => (match C[j]? with
        | some (some e) => do
          setObj L.blk (Obj.mapIter (some Lm.blk) clock (seen.push e.born) clock)
          pure (Value.tuple #[Value.bool true, e.key, e.val])
        | some none => pure (Value.tuple #[Value.bool false])
        | none => stuck "Next: no such candidate" : Sem Value).run P w' := by
      unfold Instr.next
      simp only [hx, getObj, Sem.run_bind, Sem.run, h2, e1, Result.andThen_ok, hnolost, hc, hold, hnew]
      rw [if_neg (by simp), Sem.run_bind]
      rfl
    split at hk4
    · -- nothing is left
      have hemp : cand = #[] := by
        rw [← Array.isEmpty_iff, Array.isEmpty_iff_size_eq_zero]
        rcases Nat.eq_zero_or_pos cand.size with h' | h'
        · exact h'
        · obtain ⟨q1, q2⟩ := (hmem cand[0]).1 (by simp)
          obtain ⟨i, hi, hie⟩ := Array.mem_iff_getElem.1 q1
          have := (hI.seen_iff i cand[0] (by rw [← hie]; simp [hi])).2 q2
          simp at this
      have hC : C = #[none] := by simp [C, hemp]
      obtain ⟨j, w', g1, g2, g3, g4, g5⟩ := run_choose_mapNext (P := P) C.size w (by rw [hC]; simp)
      have hj : j = 0 := by rw [hC] at g2; simp at g2; exact g2
      rw [g1] at hrun
      simp only [Result.andThen_ok, hC, hj] at hrun
      refine ⟨_, h, nx, _, .value (.tuple #[.bool false]), w', ρ, hk4, run_v hrun, .inl rfl, Ren.ext_refl nx ρ, Nat.le_refl nx, ⟨g4, g5, fun i c t fr hi => ⟨c, by rw [g3]; exact hi, rfl⟩⟩, ?_, by rw [g3]; exact s.hs⟩
      simp only [VR]
      exact ⟨_, rfl, VRs_cons_cons.2 ⟨by simp only [VR], VRs_nil.2 rfl⟩⟩
    · rename_i left' hleft
      rw [List.all_eq_true] at hk4
      have hne : left ≠ [] := fun e => hleft (by simpa using e)
      obtain ⟨i0, hi0⟩ := List.exists_mem_of_ne_nil left hne
      have hi0lt := hI.lt i0 hi0
      have hpos : 0 < cand.size := by
        have h3 := (hI.seen_iff i0 es[i0] (by simp [hi0lt])).1 hi0
        have h4 := (hmem es[i0]).2 ⟨by simp, h3⟩
        exact Array.size_pos_of_mem h4
      have hC : C = cand.map some := by
        have : cand.isEmpty = false := by rw [Array.isEmpty_eq_false_iff]; intro e; rw [e] at hpos; simp at hpos
        simp [C, this]
      obtain ⟨j, w', g1, g2, g3, g4, g5⟩ := run_choose_mapNext (P := P) C.size w (by rw [hC]; simpa using hpos)
      have hjlt : j < cand.size := by rw [hC] at g2; simpa using g2
      have hCj : C[j]? = some (some cand[j]) := by rw [hC]; simp [hjlt]
      obtain ⟨q1, q2⟩ := (hmem cand[j]).1 (by simp)
      obtain ⟨i, hi, hie⟩ := Array.mem_iff_getElem.1 q1
      have hies : es[i]? = some cand[j] := by rw [← hie]; simp [hi]
      have hil := (hI.seen_iff i cand[j] hies).2 q2
      obtain ⟨e, he, hk5⟩ := onSome_true (hk4 i hil)
      rw [H.setK_eq] at hk5
      have hk6 : k (.val (.tup [.bool true, e.1, e.2]) (h.set b (.iter m ver (left.erase i) (some i))) nx) = true := hk5
      obtain ⟨m', hm', hk', hv'⟩ := e2.2 i e he
      have hm'' : es[i]? = some m' := by simpa using hm'
      rw [hies] at hm''; cases hm''
      have h2' : w'.heap[L.blk]? = some (.mapIter (some Lm.blk) clock seen clock) := by rw [g3]; exact h2
      obtain ⟨p1, p2, p3⟩ := setIf_heap (o' := .mapIter (some Lm.blk) clock (seen.push cand[j].born) clock) h2'
      rw [g1] at hrun
      simp only [Result.andThen_ok, hCj] at hrun
      have hrun' : (Instr.next (a.eval x) false t).run P w = .ok (.tuple #[.bool true, cand[j].key, cand[j].val]) { w' with heap := w'.heap.setIfInBounds L.blk (.mapIter (some Lm.blk) clock (seen.push cand[j].born) clock) } := by
        rw [hrun]
        simp [setObj, Sem.run, h2']
      refine ⟨_, _, _, _, .value _, _, ρ, hk6, run_v hrun', .inl rfl, Ren.ext_refl nx ρ, Nat.le_refl nx, SO.other (b := L.blk) (by rw [h2]; intro c t fr h; cases h) (fun i hi => by rw [p2 i hi, g3]) g4 g5, ?_, ?_⟩
      · simp only [VR]
        exact ⟨_, rfl, VRs_cons_cons.2 ⟨by simp only [VR], VRs_cons_cons.2 ⟨hk', VRs_cons_cons.2 ⟨hv', VRs_nil.2 rfl⟩⟩⟩⟩
      · have hlive : h.get b ≠ .dead := by rw [hb]; simp
        have hs' : HS ρ h nx w'.heap E := by rw [g3]; exact s.hs
        have hmb : m ≠ b := fun e => by subst e; rw [hb] at hm; cases hm
        refine hs'.turn hlive hL p1 p2 (fun _ => ⟨Lm, clock, _, clock, h0, h1, p3, fun l' v' hl' => ?_⟩) fun j' mm ver' left2 cur2 Lj l2 v2 _ _ _ hbb => by cases hbb
        rw [H.get_set_ne _ _ (s.hs.lt hL) hmb, hm] at hl'
        cases hl'
        refine ⟨Nat.le_refl _, fun _ es' clock' he' => ?_⟩
        have hLne := s.hs.inj m b Lm L (by rw [hm]; simp) hlive hmb h1 hL
        rw [p2 _ hLne, g3, e1] at he'
        cases he'
        refine ⟨rfl, rfl, hI.nodup.erase i, fun q hq => hI.lt q (List.mem_of_mem_erase hq), fun q mq hq => ?_, fun q hq => ?_⟩
        · rw [hI.nodup.mem_erase_iff, hI.seen_iff q mq hq]
          simp only [Array.mem_push, not_or]
          constructor
          · rintro ⟨x1, x2⟩
            refine ⟨x2, fun heq => x1 ?_⟩
            -- entries of one birth are one
            obtain ⟨hqlt, hqe⟩ := Array.getElem?_eq_some_iff.1 hq
            by_cases hlt : q < i
            · exact absurd (show (es.toList.map (·.born))[q]'(by simpa using hqlt) = (es.toList.map (·.born))[i]'(by simpa using hi) by simp only [List.getElem_map, Array.getElem_toList]; rw [hqe, hie]; exact heq) ((List.pairwise_iff_getElem.1 e3) q i (by simpa using hqlt) (by simpa using hi) hlt)
            · by_cases hgt : i < q
              · exact absurd (show (es.toList.map (·.born))[i]'(by simpa using hi) = (es.toList.map (·.born))[q]'(by simpa using hqlt) by simp only [List.getElem_map, Array.getElem_toList]; rw [hqe, hie]; exact heq.symm) ((List.pairwise_iff_getElem.1 e3) i q (by simpa using hi) (by simpa using hqlt) hgt)
              · omega
          · rintro ⟨x1, x2⟩
            refine ⟨fun heq => x2 ?_, x1⟩
            subst heq
            rw [hies] at hq; cases hq; rfl
        · cases hq
          exact ⟨cand[j], hies, by simp⟩
  · cases hk2
end

end Go.Proofs.YtfcoffpmcmhieaaGreatDoor.AI
namespace Go.Proofs.YtfcoffpmcmhieaaGreatDoor.AI
variable {P : Program}

theorem isByteSlice_true {t : TypeId} (h : isByteSlice P t = true) : ∃ e, P.underlying t = some (.slice e) ∧ P.underlying e = some (.int .u8) := by
  unfold isByteSlice at h
  split at h
  · rename_i e hd
    split at h
    · rename_i he; exact ⟨e, hd, he⟩
    · cases h
  · cases h

section
variable {ρ : Ren} {h : H} {nx : Nat} {w : World} {E : Nat → Option Obj} {n : Nat} {r : R} {a : Act} {k : K}

theorem bytesOf_ok : ∀ {l : List AV} {vs : List Value} {s : List UInt8}, VRs ρ l vs → bytesOf l = some s → ∃ ns : List Int, vs = ns.map (Value.int .u8) ∧ s = ns.map fun n => UInt8.ofNat n.toNat
  | [], vs, s, hv, hb => by
    rw [VRs_nil] at hv; subst hv
    simp only [bytesOf, Option.some.injEq] at hb
    subst hb
    exact ⟨[], rfl, rfl⟩
  | a :: l, vs, s, hv, hb => by
    obtain ⟨v, r, rfl, h1, h2⟩ := VRs_cons.1 hv
    unfold bytesOf at hb
    split at hb
    · rename_i heq; cases heq
    · rename_i n' l' heq
      cases heq
      simp only [Option.map_eq_some_iff] at hb
      obtain ⟨s', hs', rfl⟩ := hb
      obtain ⟨ns, rfl, rfl⟩ := bytesOf_ok h2 hs'
      simp only [VR] at h1
      subst h1
      exact ⟨n' :: ns, rfl, rfl⟩
    · cases hb

theorem VRs_bytes (l : List UInt8) : VRs ρ (byteCells l) (l.map fun b => Value.int .u8 b.toNat) := by
  unfold byteCells
  exact VRs.of_map _ _ (fun b => by simp only [VR]) l

theorem allOne_bytes (l : List UInt8) : AV.allOne (byteCells l) = true := by
  simp [AV.allOne, byteCells, AV.oneCell]

theorem bytesWorld_heap (w : World) (e : TypeId) (s : ByteArray) :
    (Lib.bytesWorld w e s).heap = w.heap.push (.cells (Lib.bytesCells w e s) e ((Lib.bytesCells w e s).size, (Lib.bytesCells w e s).size + 1)) := by
  apply Array.ext_getElem?
  intro i
  rcases Nat.lt_trichotomy i w.heap.size with hi | hi | hi
  · rw [Lib.bytesWorld_at_old w e s i hi, Array.getElem?_push, if_neg (by omega)]
  · subst hi
    rw [Lib.bytesWorld_at_new]; simp
  · rw [Array.getElem?_eq_none (by rw [Lib.bytesWorld_size]; omega), Array.getElem?_eq_none (by simp; omega)]

theorem grownCap_ge (w : World) (need old : Nat) (e : TypeId) : need ≤ grownCap w need old e := by
  simp only [grownCap, Question.cut]; omega

theorem opConvert_ok (s : Sit ρ h nx w E n r a) {t u : TypeId} {x : Operand} (hk : opConvert t u x P r h nx k = true) :
    QuietRes P (do pure (.value (← convert t u (a.eval x)))) ρ h nx w k ∨ MakeRes P (do pure (.value (← convert t u (a.eval x)))) ρ h nx w k := by
  have hx := ev_ok s x
  unfold opConvert at hk
  split at hk
  · rename_i l hl
    rw [hl] at hx
    simp only [VR] at hx
    cases hb : isByteSlice P u with
    | false =>
      rw [hb] at hk
      obtain ⟨v, hv, hk1⟩ := onSome_true (show onSome (pureRun P (convert t u (.string ⟨⟨l⟩⟩))) _ = true from hk)
      refine .inl ⟨_, v, hk1, run_v ?_, VR_ofV ρ v⟩
      rw [hx]; exact pureRun_run hv w
    | true =>
      rw [hb] at hk
      obtain ⟨hst, hk1⟩ := onTrue_true (show onTrue (isString P t) _ = true from hk)
      obtain ⟨e, he, hk2⟩ := onSome_true hk1
      obtain ⟨hsz, hk3⟩ := onTrue_true hk2
      obtain ⟨hlt, hk4⟩ := newB_true hk3
      have hd := isString_true hst
      obtain ⟨el, hd2, hd3⟩ := isByteSlice_true hb
      have hrun := Lib.run_convert_string_bytes (P := P) w t u el ⟨⟨l⟩⟩ hd hd2 hd3
      let c := Lib.bytesCells w el ⟨⟨l⟩⟩
      have hcap := grownCap_ge w l.length 0 el
      have hcsz : c.size = grownCap w l.length 0 el := by
        simp [c, Lib.bytesCells, ByteArray.size]; omega
      have hsz1 : e.2.1 = 1 := by simpa using hsz
      let L : Loc := ⟨w.heap.size, 0, c.size⟩
      refine .inr ⟨_, .slice (some ⟨w.heap.size, 0, none⟩) l.length (grownCap w l.length 0 el), _, .cells c el (c.size, c.size + 1), L, Lib.bytesWorld w el ⟨⟨l⟩⟩, hk4, run_v ?_, ⟨bytesWorld_heap w el _, rfl, rfl⟩, rfl, ?_, ?_, hlt⟩
      · rw [hx]; exact hrun
      · simp only [VR]
        exact ⟨L, 0, _, Ren.put_same _ _ _, rfl, (fun h => (by cases h)), hcap, Nat.le_refl _, fun _ => ⟨rfl, by show 0 + grownCap w l.length 0 el * 1 ≤ c.size; omega⟩⟩
      · have hv := VRs_bytes (ρ := ρ) l
        refine BR_new rfl rfl rfl (by omega) (fun o ho hh => by simp at hh; omega) hv (flats_of_allOne hv (allOne_bytes l)) (by simp [byteCells]) (fun i hi => cellOf_ofList _ _ (by simpa [byteCells] using hi)) (fun i hi => ?_)
        simp only [c, Lib.bytesCells]
        rw [Array.getElem?_append_left (by simpa using hi)]
        simp
  · rename_i b o len cap ex sz hl
    rw [hl] at hx
    simp only [VR] at hx
    obtain ⟨L, co, c, hL, hx, hex, hcap, hlen, hpos⟩ := hx
    obtain ⟨hc, hk1⟩ := onTrue_true hk
    simp only [Bool.and_eq_true, beq_iff_eq] at hc
    obtain ⟨⟨hc1, hc2⟩, rfl⟩ := hc
    obtain ⟨el, hd, he⟩ := isByteSlice_true hc1
    have hd2 := isString_true hc2
    obtain ⟨m, tt, z, hb, hk2⟩ := Blk.onCells_true hk1
    obtain ⟨hq, l, hl2, hcells, hk3⟩ := cellsAt_true hk2
    obtain ⟨bs, hbs, hk4⟩ := onSome_true hk3
    obtain ⟨vs, v1, v2, v3, _⟩ := s.hs.cells hb hL hq hl2 hcells
    obtain ⟨ns, rfl, rfl⟩ := bytesOf_ok v2 hbs
    refine .inl ⟨_, .string (ns.foldl (fun r n => r.push (UInt8.ofNat n.toNat)) ByteArray.empty), hk4, run_v ?_, ?_⟩
    · rw [hx, Go.run_convert_bytes_string w t u el _ _ _ hd he hd2]
      refine run_bytesToString w _ len c ns ?_
      rw [← v1]
      have hload : ∀ (j : Nat) (v : Value), (ns.map (Value.int .u8))[j]? = some v → w.cell? ⟨L.blk, co + j, none⟩ = some v := by
        intro j v hj
        have hlt : j < len := by
          have := (List.getElem?_eq_some_iff.1 hj).1
          rw [v1] at this; exact this
        have := (hpos (by omega)).1
        rw [this]
        exact v3 j v hj
      exact run_loadCells _ hload
    · simp only [VR]
      rw [foldl_push_bytes]
      congr 1
      simp [ByteArray.empty, ByteArray.emptyWithCapacity]
      rfl
  · rename_i hl
    rw [hl] at hx
    simp only [VR] at hx
    obtain ⟨hc, hk1⟩ := onTrue_true hk
    simp only [Bool.and_eq_true] at hc
    obtain ⟨el, hd, he⟩ := isByteSlice_true hc.1
    have hd2 := isString_true hc.2
    refine .inl ⟨_, .string ⟨⟨[]⟩⟩, hk1, run_v ?_, by simp only [VR]⟩
    rw [hx, Go.run_convert_bytes_string w t u el none 0 0 hd he hd2]
    rfl
  · obtain ⟨v, hv, hk1⟩ := onSome_true hk
    obtain ⟨z, hz, hk2⟩ := onSome_true hk1
    refine .inl ⟨_, z, hk2, run_v ?_, VR_ofV ρ z⟩
    rw [VR_toV hx hv]; exact pureRun_run hz w
end

end Go.Proofs.YtfcoffpmcmhieaaGreatDoor.AI
namespace Go.Proofs.YtfcoffpmcmhieaaGreatDoor.AI
variable {P : Program}

section
variable {ρ : Ren} {h : H} {nx : Nat} {w : World} {E : Nat → Option Obj} {n : Nat} {r : R} {a : Act} {k : K}

theorem lenA_ok (hs : HS ρ h nx w.heap E) {ts : Array TypeId} {ty : TypeId} {x : AV} {cx : Value} (hx : VR ρ x cx) {k : Int → Bool} (hk : lenA P ts x h k = true) :
    ∃ m, k m = true ∧ (Builtin.len_ ts ty #[cx]).run P w = .ok (.int .i64 m) w := by
  obtain ⟨t, ht, hk1⟩ := onSome_true (show onSome (typeAt ts 0) _ = true from hk)
  have ht : ts[0]? = some t := ht
  unfold Builtin.len_
  split at hk1
  · rename_i hd
    cases x <;> first | (cases hk1; done) | skip
    simp only [VR] at hx
    subst hx
    refine ⟨_, hk1, ?_⟩
    simp [ht, run_underlying hd, goInt]
    rfl
  · rename_i m e hd
    refine ⟨_, hk1, ?_⟩
    simp [ht, run_underlying hd, goInt]
  · rename_i a hd
    obtain ⟨e, he, hk2⟩ := onSome_true hk1
    obtain ⟨inf, hd2, _⟩ := arrayElem_some he
    refine ⟨_, hk2, ?_⟩
    simp [ht, run_underlying hd, run_underlying hd2, goInt]
  · rename_i e hd
    cases x <;> first | (cases hk1; done) | skip
    · simp only [VR] at hx
      subst hx
      refine ⟨_, hk1, ?_⟩
      simp [ht, run_underlying hd, goInt]
    · simp only [VR] at hx
      obtain ⟨L, co, c, hL, rfl, _⟩ := hx
      refine ⟨_, hk1, ?_⟩
      simp [ht, run_underlying hd, goInt]
  · rename_i kt et hd
    cases x <;> first | (cases hk1; done) | skip
    · simp only [VR] at hx
      subst hx
      refine ⟨_, hk1, ?_⟩
      simp [ht, run_underlying hd, goInt]
    · simp only [VR] at hx
      obtain ⟨L, hL, rfl⟩ := hx
      obtain ⟨l, ver, hb, hk2⟩ := onMap_true hk1
      obtain ⟨es, clock, e1, e2, _⟩ := hs.map hb hL
      refine ⟨_, hk2, ?_⟩
      have := e2.1
      simp only [Array.length_toList] at this
      simp [ht, run_underlying hd, goInt, run_getObj_map e1, this]
  · cases hk1

theorem capA_ok {ts : Array TypeId} {ty : TypeId} {x : AV} {cx : Value} (hx : VR ρ x cx) {k : Int → Bool} (hk : capA P ts x k = true) :
    ∃ m, k m = true ∧ (Builtin.cap_ ts ty #[cx]).run P w = .ok (.int .i64 m) w := by
  obtain ⟨t, ht, hk1⟩ := onSome_true (show onSome (typeAt ts 0) _ = true from hk)
  obtain ⟨e, he, hk2⟩ := onSome_true hk1
  have ht : ts[0]? = some t := ht
  obtain ⟨inf, hd, _⟩ := sliceElem_some he
  unfold Builtin.cap_
  split at hk2
  · simp only [VR] at hx
    subst hx
    refine ⟨_, hk2, ?_⟩
    simp [ht, run_underlying hd, goInt]
  · simp only [VR] at hx
    obtain ⟨L, co, c, hL, rfl, hex, _⟩ := hx
    have := hex (by simp)
    subst this
    refine ⟨_, hk2, ?_⟩
    simp [ht, run_underlying hd, goInt]
  · cases hk2

theorem VRs_toVs : ∀ {l : List AV} {vs vs' : List Value}, VRs ρ l vs → toVs l = some vs' → vs = vs'
  | [], vs, vs', h, ht => by
    rw [VRs_nil] at h; simp [toVs] at ht; rw [h, ← ht]
  | x :: l, vs, vs', h, ht => by
    obtain ⟨v, r, rfl, h1, h2⟩ := VRs_cons.1 h
    simp only [toVs, List.mapM_cons, Option.bind_eq_bind, Option.bind_eq_some_iff, Option.pure_def, Option.some.injEq] at ht
    obtain ⟨w, hw, ws, hws, rfl⟩ := ht
    rw [VR_toV h1 hw, VRs_toVs h2 hws]

theorem clearA_ok (hs : HS ρ h nx w.heap E) {ts : Array TypeId} {ty : TypeId} {x : AV} {cx : Value} (hx : VR ρ x cx) (hk : clearA P ts x h nx k = true) :
    ActRes P (do pure (.value (← Builtin.clear_ ts ty #[cx]))) ρ nx w E k := by
  obtain ⟨t, ht, hk1⟩ := onSome_true (show onSome (typeAt ts 0) _ = true from hk)
  obtain ⟨e, he, hk2⟩ := onSome_true hk1
  obtain ⟨z, hz, hk3⟩ := onSome_true hk2
  have ht : ts[0]? = some t := ht
  obtain ⟨inf, hd, hinf, hsz, _⟩ := sliceElem_some he
  split at hk3
  · simp only [VR] at hx
    subst hx
    refine ⟨_, h, nx, .tuple #[], .value (.tuple #[]), w, ρ, hk3, run_v ?_, .inl rfl, Ren.ext_refl nx ρ, Nat.le_refl nx, SO.refl w, VR_undef, hs⟩
    unfold Builtin.clear_
    simp [ht, run_underlying hd]
  · rename_i b o len cap ex sz
    simp only [VR] at hx
    obtain ⟨L, co, c, hL, rfl, hex, hcap, hlen, hpos⟩ := hx
    obtain ⟨hc, hk4⟩ := onTrue_true hk3
    simp only [Bool.and_eq_true, beq_iff_eq] at hc
    obtain ⟨⟨rfl, h1⟩, hzl⟩ := hc
    obtain ⟨m, tt, z', hb, hk5⟩ := Blk.onCells_true hk4
    obtain ⟨hle, hk6⟩ := onTrue_true hk5
    have hle : o + len * e.2.1 ≤ m := by simpa using hle
    rw [H.setK_eq] at hk6
    obtain ⟨i, zv, hi, hzv, hzc⟩ := zero_cells hz h1 ρ
    have hzl2 := hzc.length
    simp only [Array.length_toList] at hzl2
    have hlive : h.get b ≠ .dead := by rw [hb]; simp
    obtain ⟨K, hK, hB, _⟩ := hs.liveL hlive hL
    rw [hL] at hK; cases hK
    rw [hb] at hB
    obtain ⟨c0, e0, fr, g1, g2, g3, _⟩ := hB
    by_cases hl0 : len = 0
    · subst hl0
      refine ⟨_, _, nx, .tuple #[], .value (.tuple #[]), w, ρ, hk6, run_v ?_, .inl rfl, Ren.ext_refl nx ρ, Nat.le_refl nx, SO.refl w, VR_undef, ?_⟩
      · unfold Builtin.clear_
        simp [ht, run_underlying hd]
      · refine hs.turn hlive hL rfl (fun _ _ => rfl) (fun _ => ?_) fun j m ver left cur Lj l v _ _ _ hb => by cases hb
        obtain ⟨K, hK, hB, _⟩ := hs.liveL hlive hL
        rw [hL] at hK; cases hK
        rw [hb] at hB
        exact hB
    · obtain ⟨p1, p2⟩ := hpos (by omega)
      have hrow := VRs_zeroRow (ρ := ρ) hzc (len * e.2.1) (by
        by_cases h0 : len * e.2.1 = 0
        · exact .inl h0
        · exact .inr (pos_of_mul hzl h0)) len (by rw [hzl])
      obtain ⟨w', q1, q2, q3⟩ := hs.write (P := P) hb hL (o := o) (t' := setCells tt (repeatL z len) o) (m' := m) hrow (flats_of_allOne hrow (allOne_repeat h1 len)) (by rw [repeatL_length, hzl]; omega) (by omega) (by omega) rfl
      refine ⟨_, _, nx, .tuple #[], .value (.tuple #[]), w', ρ, hk6, run_v ?_, .inl rfl, Ren.ext_refl nx ρ, Nat.le_refl nx, q3, VR_undef, q2⟩
      have hzr : (Builtin.zeroCells zv.cells len).toList = (zeroRow zv.cells (len * e.2.1)).toList := by
        simp [Builtin.zeroCells, zeroRow, ← hzl, hzl2]
      unfold Builtin.clear_
      cases len with
      | zero => exact absurd rfl hl0
      | succ len =>
        simp only [List.getElem?_toArray] at ht ⊢
        simp [ht, run_underlying hd, run_zeroValue hi hzv, hzr, p1, q1]
  · cases hk3

theorem EntR_erase {l : List (AV × AV)} {es : Array MapEntry} (h : EntR ρ l es.toList) (i : Nat) : EntR ρ (l.eraseIdx i) (es.eraseIdxIfInBounds i).toList := by
  have e : (es.eraseIdxIfInBounds i).toList = es.toList.eraseIdx i := by simp
  rw [e]
  refine ⟨by simp [List.length_eraseIdx, h.1], fun j x hx => ?_⟩
  rw [List.getElem?_eraseIdx] at hx ⊢
  split at hx
  · rename_i hji
    rw [if_pos hji]; exact h.2 _ _ hx
  · rename_i hji
    rw [if_neg hji]; exact h.2 _ _ hx

theorem deleteA_ok (hs : HS ρ h nx w.heap E) {ts : Array TypeId} {ty : TypeId} {m y : AV} {cm cy : Value} (hm : VR ρ m cm) (hy : VR ρ y cy) (hk : deleteA P ts m y h nx k = true) :
    ActRes P (do pure (.value (← Builtin.delete_ ts ty #[cm, cy]))) ρ nx w E k := by
  obtain ⟨t, ht, hk1⟩ := onSome_true (show onSome (typeAt ts 0) _ = true from hk)
  obtain ⟨ke, hke, hk2⟩ := onSome_true hk1
  have hd := mapKind_some hke
  have ht : ts[0]? = some t := ht
  split at hk2
  · simp only [VR] at hm
    subst hm
    obtain ⟨f, hf, hk3⟩ := onSome_true hk2
    obtain ⟨g1, g2, g3⟩ := keyIx_ok hy (EntR_nil.2 rfl : EntR ρ [] []) hf w
    refine ⟨_, h, nx, .tuple #[], .value (.tuple #[]), w, ρ, hk3, run_v ?_, .inl rfl, Ren.ext_refl nx ρ, Nat.le_refl nx, SO.refl w, VR_undef, hs⟩
    unfold Builtin.delete_
    simp [ht, run_underlying hd, g1]
  · rename_i b
    simp only [VR] at hm
    obtain ⟨L, hL, rfl⟩ := hm
    obtain ⟨l, ver, hb, hk3⟩ := onMap_true hk2
    obtain ⟨f, hf, hk4⟩ := onSome_true hk3
    obtain ⟨es, clock, e1, e2, e3, e4⟩ := hs.map hb hL
    have hemp : l.isEmpty = es.isEmpty := by
      have := e2.1
      cases l <;> cases es <;> simp_all [Array.isEmpty]
    obtain ⟨g1, g2, g3⟩ := keyIx_ok hy e2 hf w
    rw [hemp] at g1
    have hlive : h.get b ≠ .dead := by rw [hb]; simp
    cases f with
    | none =>
      have hk5 : k (.val (.tup []) h nx) = true := hk4
      obtain ⟨p1, p2, p3⟩ := setIf_heap (o' := .map es clock) e1
      refine ⟨_, h, nx, .tuple #[], .value (.tuple #[]), w, ρ, hk5, run_v ?_, .inl rfl, Ren.ext_refl nx ρ, Nat.le_refl nx, SO.refl w, VR_undef, hs⟩
      have hsame : ({ w with heap := w.heap.setIfInBounds L.blk (.map es clock) } : World) = w := by
        have hlt := (Array.getElem?_eq_some_iff.1 e1).1
        have hget := (Array.getElem?_eq_some_iff.1 e1).2
        have : w.heap.setIfInBounds L.blk (.map es clock) = w.heap := by
          apply Array.ext_getElem?
          intro i
          by_cases hi : i = L.blk
          · subst hi; rw [p3, e1]
          · exact p2 i hi
        rw [this]
      unfold Builtin.delete_
      simp [ht, run_underlying hd, run_getObj_map e1, g1, g2, placed, run_setObj_map _ e1]
      rw [hsame]
    | some j =>
      have hk4 : h.setK b (.map (l.eraseIdx j) (ver + 1)) (retH (.tup []) nx k) = true := hk4
      rw [H.setK_eq] at hk4
      have hk5 : k (.val (.tup []) (h.set b (.map (l.eraseIdx j) (ver + 1))) nx) = true := hk4
      have hjl : j < es.size := by have := g3 j rfl; simpa using this
      obtain ⟨mj, hmj⟩ : ∃ mj, es[j]? = some mj := ⟨es[j], Array.getElem?_eq_getElem hjl⟩
      let o' : Obj := .map (es.eraseIdxIfInBounds j) clock
      obtain ⟨p1, p2, p3⟩ := setIf_heap (o' := o') e1
      have hel : (es.eraseIdxIfInBounds j).toList = es.toList.eraseIdx j := by simp
      refine ⟨_, _, nx, .tuple #[], .value (.tuple #[]), { w with heap := w.heap.setIfInBounds L.blk o' }, ρ, hk5, run_v ?_, .inl rfl, Ren.ext_refl nx ρ, Nat.le_refl nx, SO.other (b := L.blk) (by rw [e1]; intro c t fr h; cases h) p2 rfl rfl, VR_undef, ?_⟩
      · unfold Builtin.delete_
        simp [ht, run_underlying hd, run_getObj_map e1, g1, g2, placed, hmj, run_setObj_map _ e1, o']
      · refine hs.turn hlive hL p1 p2 (fun _ => ⟨_, _, p3, EntR_erase e2 j, ?_, ?_⟩) ?_
        · rw [hel]
          exact (e3.sublist ((List.eraseIdx_sublist es.toList j).map _))
        · intro q hq
          rw [hel] at hq
          exact e4 q ((List.eraseIdx_sublist es.toList j).subset hq)
        · intro j' mm ver' left cur Lj l' v' hji hg hmi hbb hLj hB
          rw [hg] at hB ⊢
          subst hmi
          obtain ⟨Lm, since, seen, stepped, q0, q1, q2, q3⟩ := hB
          have hne := hs.inj j' mm Lj L (by rw [hg]; simp) hlive hji hLj hL
          refine ⟨Lm, since, seen, stepped, q0, q1, by rw [p2 _ hne]; exact q2, fun l'' v'' hl'' => ?_⟩
          rw [H.get_set_same] at hl''
          cases hl''
          obtain ⟨r1, _⟩ := q3 l ver hb
          exact ⟨by omega, fun hv => by omega⟩
  · cases hk2

end

end Go.Proofs.YtfcoffpmcmhieaaGreatDoor.AI
namespace Go.Proofs.YtfcoffpmcmhieaaGreatDoor.AI
variable {P : Program}

section
variable {ρ : Ren} {h : H} {nx : Nat} {w : World} {E : Nat → Option Obj} {n : Nat} {r : R} {a : Act} {k : K}

theorem copyA_ok (hs : HS ρ h nx w.heap E) {ts : Array TypeId} {ty : TypeId} {d x : AV} {cd cx : Value} (hd : VR ρ d cd) (hx : VR ρ x cx) (hk : copyA P ts d x h nx k = true) :
    ActRes P (do pure (.value (← Builtin.copy_ ts ty #[cd, cx]))) ρ nx w E k := by
  obtain ⟨t, ht, hk1⟩ := onSome_true (show onSome (typeAt ts 0) _ = true from hk)
  obtain ⟨e, he, hk2⟩ := onSome_true hk1
  have ht : ts[0]? = some t := ht
  obtain ⟨inf, htd, hinf, hsz, _⟩ := sliceElem_some he
  split at hk2
  · -- nothing to copy to
    simp only [VR] at hd
    subst hd
    have fin : k (.val (.int .i64 (.ofNat 0)) h nx) = true → (Builtin.copy_ ts ty #[.slice none 0 0, cx]).run P w = .ok (.int .i64 0) w →
        ActRes P (do pure (.value (← Builtin.copy_ ts ty #[.slice none 0 0, cx]))) ρ nx w E k := fun hk hr =>
      ⟨_, h, nx, _, .value (.int .i64 0), w, ρ, hk, run_v hr, .inl rfl, Ren.ext_refl nx ρ, Nat.le_refl nx, SO.refl w, by simp only [VR]; rfl, hs⟩
    unfold Builtin.copy_ at fin ⊢
    cases x <;> first | (cases hk2; done) | skip
    · simp only [VR] at hx
      subst hx
      exact fin hk2 (by simp [ht, run_underlying htd, Builtin.lenOf, Builtin.firstCells, run_sizeOf hinf, goInt, ByteArray.size])
    · simp only [VR] at hx
      subst hx
      exact fin hk2 (by simp [ht, run_underlying htd, Builtin.lenOf, Builtin.firstCells, run_sizeOf hinf, goInt])
    · simp only [VR] at hx
      obtain ⟨L, co, c, hL, rfl, _⟩ := hx
      exact fin hk2 (by simp [ht, run_underlying htd, Builtin.lenOf, Builtin.firstCells, run_sizeOf hinf, goInt, loadCells, loadCellsFrom])
  · rename_i b o len cap ex sz
    simp only [VR] at hd
    obtain ⟨L, co, c, hL, rfl, hex, hcap, hlen, hpos⟩ := hd
    obtain ⟨hsz2, hk3⟩ := onTrue_true hk2
    have hsz2 : sz = e.2.1 := by simpa using hsz2
    subst hsz2
    split at hk3
    · simp only [VR] at hx
      subst hx
      refine ⟨_, h, nx, .int .i64 0, .value (.int .i64 0), w, ρ, hk3, run_v ?_, .inl rfl, Ren.ext_refl nx ρ, Nat.le_refl nx, SO.refl w, by simp only [VR]; rfl, hs⟩
      unfold Builtin.copy_
      simp [ht, run_underlying htd, Builtin.lenOf, Builtin.firstCells, run_sizeOf hinf, goInt, storeCells]
    · rename_i b' o' len' cap' ex' sz'
      simp only [VR] at hx
      obtain ⟨L', co', c', hL', rfl, hex', hcap', hlen', hpos'⟩ := hx
      obtain ⟨hsz3, hk4⟩ := onTrue_true hk3
      have hsz3 : sz' = e.2.1 := by simpa using hsz3
      subst hsz3
      rw [forceN_eq] at hk4
      generalize hm : Nat.min len' len = m at hk4
      have hm1 : m ≤ len' := by rw [← hm]; exact Nat.min_le_left ..
      have hm2 : m ≤ len := by rw [← hm]; exact Nat.min_le_right ..
      obtain ⟨n', t', z', hb', hk5⟩ := Blk.onCells_true hk4
      obtain ⟨hq, l, hl, hcells, hk6⟩ := cellsAt_true hk5
      obtain ⟨nn, tt, z, hb, hk7⟩ := Blk.onCells_true hk6
      obtain ⟨hle, hk8⟩ := onTrue_true hk7
      have hle : o + m * e.2.1 ≤ nn := by simpa using hle
      rw [H.setK_eq] at hk8
      obtain ⟨vs, v1, v2, v3, v4⟩ := hs.cells hb' hL' hq hl hcells
      have hlive : h.get b ≠ .dead := by rw [hb]; simp
      obtain ⟨K, hK, hB, _⟩ := hs.liveL hlive hL
      rw [hL] at hK; cases hK
      rw [hb] at hB
      obtain ⟨c0, e0, fr, g1, g2, g3, _⟩ := hB
      obtain ⟨w', q1, q2, q3⟩ := hs.write (P := P) hb hL (o := o) (t' := setCells tt l o) (m' := nn) v2 v4 (by rw [hl]; omega) (by omega) (by omega) rfl
      have hload : (loadCells ⟨L'.blk, co', none⟩ (m * e.2.1)).run P w = .ok vs.toArray w := by
        rw [← v1]
        refine run_loadCells vs fun j v hj => ?_
        have hjl : j < m * e.2.1 := by
          have := (List.getElem?_eq_some_iff.1 hj).1
          rw [v1] at this; exact this
        have hmp : 0 < m := by
          rcases Nat.eq_zero_or_pos m with h0 | h0
          · rw [h0] at hjl; simp at hjl
          · exact h0
        rw [(hpos' (by omega)).1]
        exact v3 j v hj
      have hstore : ∃ w'', (storeCells ⟨L.blk, co, none⟩ vs 0).run P w = .ok () w'' ∧ HS ρ (h.set b (.cells nn (setCells tt l o) z)) nx w''.heap E ∧ SO w w'' := by
        by_cases hv0 : vs = []
        · subst hv0
          have hl0 : l = [] := List.eq_nil_of_length_eq_zero (by rw [hl, ← v1]; rfl)
          subst hl0
          refine ⟨w, by simp [storeCells], ?_⟩
          simp only [storeCells, Sem.run_pure] at q1
          cases q1
          exact ⟨q2, SO.refl w⟩
        · have hmp : 0 < m := by
            rcases Nat.eq_zero_or_pos m with h0 | h0
            · rw [h0] at v1; simp at v1; exact absurd v1 hv0
            · exact h0
          rw [(hpos (by omega)).1]
          exact ⟨w', q1, q2, q3⟩
      obtain ⟨w'', s1, s2, s3⟩ := hstore
      refine ⟨_, _, nx, .int .i64 m, .value (.int .i64 m), w'', ρ, hk8, run_v ?_, .inl rfl, Ren.ext_refl nx ρ, Nat.le_refl nx, s3, by simp only [VR]; rfl, s2⟩
      unfold Builtin.copy_
      simp [ht, run_underlying htd, Builtin.lenOf, Builtin.firstCells, run_sizeOf hinf, hsz, goInt, hm, hload, s1]
    · cases hk3
  · cases hk2
end

end Go.Proofs.YtfcoffpmcmhieaaGreatDoor.AI
namespace Go.Proofs.YtfcoffpmcmhieaaGreatDoor.AI
variable {P : Program}

/-- A new name for what no live name holds. -/
theorem HS.bind {ρ : Ren} {h : H} {nx : Nat} {hp : Array Obj} {E : Nat → Option Obj} (s : HS ρ h nx hp E) (hn : nx < 3583) {b : Blk} {L : Loc}
    (hfree : ∀ i K, h.get i ≠ .dead → ρ i = some K → K.blk ≠ L.blk) (hlt : L.blk < hp.size) (hE : ∀ j o, E j = some o → j ≠ L.blk)
    (hb : b ≠ .dead → BR (ρ.put nx L) (h.set nx b) b L hp) : HS (ρ.put nx L) (h.set nx b) (nx + 1) hp E := by
  have hf := s.fresh
  refine ⟨?_, by omega, ?_, by have := s.nx_ge; omega, ?_, ?_, ?_, ?_⟩
  · intro i K hi
    by_cases e : i = nx
    · omega
    · rw [Ren.put_ne _ _ e] at hi; have := s.dom i K hi; omega
  · intro g K hg hi
    rw [Ren.put_ne _ _ (by have := s.nx_ge; omega)] at hi; exact s.glob g K hg hi
  · intro i K hK hi
    by_cases e : i = nx
    · subst e
      rw [Ren.put_same] at hK; cases hK
      rw [H.get_set_same] at hi ⊢
      exact ⟨hb hi, hlt⟩
    · rw [H.get_set_ne _ _ (by omega) e] at hi ⊢
      rw [Ren.put_ne _ _ e] at hK
      obtain ⟨hB, hlt⟩ := s.live i K hK hi
      refine ⟨?_, hlt⟩
      refine (BR.mono (Ren.le_put L hf) hB).other rfl ?_
      intro m ver left cur Lm l v hbe hm hg
      by_cases em : m = nx
      · subst em
        exfalso
        rw [hbe] at hB
        obtain ⟨Lm', _, _, _, _, h1, _⟩ := hB
        rw [hf] at h1; cases h1
      · rw [H.get_set_ne _ _ (by omega) em] at hg
        exact ⟨⟨l, hg⟩, rfl⟩
  · intro i j Li Lj hi hj hne hLi hLj
    by_cases ei : i = nx
    · subst ei
      rw [Ren.put_same] at hLi; cases hLi
      rw [H.get_set_ne _ _ (by omega) (Ne.symm hne)] at hj
      rw [Ren.put_ne _ _ (Ne.symm hne)] at hLj
      exact Ne.symm (hfree j Lj hj hLj)
    · rw [H.get_set_ne _ _ (by omega) ei] at hi
      rw [Ren.put_ne _ _ ei] at hLi
      by_cases ej : j = nx
      · subst ej
        rw [Ren.put_same] at hLj; cases hLj
        exact hfree i Li hi hLi
      · rw [H.get_set_ne _ _ (by omega) ej] at hj
        rw [Ren.put_ne _ _ ej] at hLj
        exact s.inj i j Li Lj hi hj hne hLi hLj
  · intro b' o' hb'
    obtain ⟨h1, h2⟩ := s.ext b' o' hb'
    refine ⟨h1, fun i K hi hK => ?_⟩
    by_cases e : i = nx
    · subst e; rw [Ren.put_same] at hK; cases hK; exact Ne.symm (hE b' o' hb')
    · rw [H.get_set_ne _ _ (by omega) e] at hi; rw [Ren.put_ne _ _ e] at hK; exact h2 i K hi hK
  · intro g hg hd
    have := s.nx_ge
    rw [H.get_set_ne _ _ (by omega) (by omega)] at hd
    rw [Ren.put_ne _ _ (by omega)]
    exact s.glive g hg hd

/-- The heap is what its look-ups are. -/
theorem HS.congr {ρ : Ren} {h h' : H} {nx : Nat} {hp : Array Obj} {E : Nat → Option Obj} (s : HS ρ h nx hp E) (hg : ∀ j, h'.get j = h.get j) : HS ρ h' nx hp E := by
  refine ⟨s.dom, s.nx_le, s.glob, s.nx_ge, fun j K hK hj => ?_, fun j k Lj Lk hj hk => ?_, fun b o hb => ?_, fun g hl hd => s.glive g hl (by rw [← hg]; exact hd)⟩
  · rw [hg] at hj ⊢
    obtain ⟨hB, hlt⟩ := s.live j K hK hj
    exact ⟨hB.other rfl fun m ver left cur Lm l v _ _ h' => ⟨⟨l, by rw [← hg]; exact h'⟩, rfl⟩, hlt⟩
  · rw [hg] at hj hk; exact s.inj j k Lj Lk hj hk
  · obtain ⟨h1, h2⟩ := s.ext b o hb
    exact ⟨h1, fun j K hj hK => h2 j K (by rw [← hg]; exact hj) hK⟩

/-- What an append takes up, of a type that is no integer's: a slice or a string. -/
theorem zerosArg_false {t : TypeId} (h : zerosArg P (some t) = some false) : (∃ e', P.underlying t = some (.slice e')) ∨ P.underlying t = some .string := by
  unfold zerosArg at h
  obtain ⟨d, hd, h⟩ := Option.bind_eq_some_iff.1 h
  cases d <;> simp at h
  · exact .inr hd
  · exact .inl ⟨_, hd⟩

theorem zerosArg_true {t : TypeId} (h : zerosArg P (some t) = some true) : ∃ k, P.underlying t = some (.int k) := by
  unfold zerosArg at h
  obtain ⟨d, hd, h⟩ := Option.bind_eq_some_iff.1 h
  cases d <;> simp at h
  exact ⟨_, hd⟩

/-- What an append takes up, and what it does with it. -/
structure SrcR (P : Program) (i : TypeInfo) (t tx e : TypeId) (x : Value) (m : Nat) (news : List Value) (w : World) : Prop where
  newsLen : news.length = m * i.size
  room : ∀ (ty : TypeId) (b off len cap : Nat) (w' : World), len + m ≤ cap → (storeCells ⟨b, off + len * i.size, none⟩ news 0).run P w = .ok () w' →
    (Builtin.append_ #[t, tx] ty #[.slice (some ⟨b, off, none⟩) len cap, x]).run P w = .ok (.slice (some ⟨b, off, none⟩) (len + m) cap) w'
  nil0 : ∀ ty : TypeId, m = 0 → (Builtin.append_ #[t, tx] ty #[.slice none 0 0, x]).run P w = .ok (.slice none 0 0) w
  grow : ∀ (ty : TypeId) (zv : Value), i.zero = some zv → ∀ (base : Option Addr) (len cap : Nat) (olds : List Value), (Builtin.firstCells i.size len (.slice base len cap)).run P w.drew = .ok olds.toArray w.drew →
    cap < len + m → ((len + m : Nat) : Int) ≤ 9223372036854775807 → Builtin.nextslicecap (len + m) cap * i.bytes ≤ 281474976710656 →
    (Builtin.append_ #[t, tx] ty #[.slice base len cap, x]).run P w =
      .ok (.slice (some ⟨w.heap.size, 0, none⟩) (len + m) (grownCap w (len + m) cap e))
        (w.drew.alloc (.cells ((olds ++ news).toArray ++ Builtin.zeroCells zv.cells (grownCap w (len + m) cap e - (len + m))) e))

theorem SrcR.of_src {i : TypeInfo} {t tx e : TypeId} {x : Value} {m : Nat} {news : List Value} {w : World} (ht : P.underlying t = some (.slice e)) (hi : P.info? e = some i) (hs : Src P i.size tx x m news w) :
    SrcR P i t tx e x m news w := by
  refine ⟨hs.newsLen, fun ty b off len cap w' hroom hst => ?_, fun ty hm => ?_, fun ty zv hz base len cap olds hold hg h63 hfit => run_append_grow_src w t tx ty e i zv ht hi hz base len cap olds hold x m news hs hg h63 hfit⟩
  · rcases hs.kind with ⟨e', hk⟩ | hk <;> simp [Builtin.append_, run_underlying ht, run_underlying hk, sizeOf, typeInfo, hi, hs.len, hroom, hs.cells, Addr.add_lit, hst]
  · subst hm
    rcases hs.kind with ⟨e', hkk⟩ | hkk <;> simp [Builtin.append_, run_underlying ht, run_underlying hkk, sizeOf, typeInfo, hi, hs.len, hs.cells]

theorem zeroCells_none (zs : Array Value) {m s : Nat} (hs : zs.size = s) (h : m * s = 0) : Builtin.zeroCells zs m = #[] := by
  unfold Builtin.zeroCells
  rw [hs, h]
  simp

theorem SrcR.of_zeros {i : TypeInfo} {t tx e : TypeId} {kd kd' : IntKind} {m : Nat} {zv : Value} {w : World} (ht : P.underlying t = some (.slice e)) (hi : P.info? e = some i) (htx : P.underlying tx = some (.int kd))
    (hz : i.zero = some zv) (hzl : zv.cells.size = i.size) (hm : m < 2 ^ 20) (hb : i.bytes < 2 ^ 20) : SrcR P i t tx e (.int kd' m) m (Builtin.zeroCells zv.cells m).toList w := by
  have hwrap : IntKind.i64.wrap (m : Int) = m := wrap64_in (by omega) (by omega)
  have hmb : (m : Int) * i.bytes ≤ 281474976710656 := by
    have h1 := Nat.mul_le_mul (Nat.le_of_lt hm) (Nat.le_of_lt hb)
    have h2 : ((m * i.bytes : Nat) : Int) ≤ 281474976710656 := by omega
    simpa using h2
  have hneg : ¬ ((m : Int) < 0) := by omega
  have hbig : ¬ (281474976710656 < (m : Int) * i.bytes) := by omega
  refine ⟨by rw [Array.length_toList, size_zeroCells, hzl], fun ty b off len cap w' hroom hst => ?_, fun ty h0 => ?_, fun ty zv' hz' base len cap olds hold hg h63 hfit => ?_⟩
  · by_cases hm0 : m * i.size = 0
    · rw [zeroCells_none _ hzl hm0] at hst
      have hst' : storeCells ⟨b, off + len * i.size, none⟩ [] 0 = (pure () : Sem Unit) := by simp [storeCells]
      rw [hst'] at hst
      simp only [Sem.run_pure] at hst
      cases hst
      simp [Builtin.append_, run_underlying ht, run_underlying htx, sizeOf, typeInfo, hi, asInt, asIntOf, hwrap, hneg, hbig, hm0, hroom, storeCells]
    · simp [Builtin.append_, run_underlying ht, run_underlying htx, sizeOf, typeInfo, zeroValue, hi, hz, asInt, asIntOf, hwrap, hneg, hbig, hm0, hroom, Addr.add_lit, hst]
  · subst h0
    have hw0 : IntKind.i64.wrap 0 = 0 := by simpa using hwrap
    simp [Builtin.append_, run_underlying ht, run_underlying htx, sizeOf, typeInfo, hi, asInt, asIntOf, hw0]
  · rw [hz] at hz'; cases hz'
    have hn : ¬ (len + m ≤ cap) := by omega
    have h63' : ¬ (9223372036854775807 < ((len : Int) + (m : Int))) := by omega
    have h48' : ¬ (281474976710656 < Builtin.nextslicecap (len + m) cap * i.bytes) := by omega
    by_cases hm0 : m * i.size = 0
    · simp [Builtin.append_, run_underlying ht, run_underlying htx, sizeOf, typeInfo, zeroValue, hi, hz, asInt, asIntOf, hwrap, hneg, hbig, hm0, hn, h63', h48', Question.forced, hold, newRow, grownCap, zeroCells_none _ hzl hm0]
    · simp [Builtin.append_, run_underlying ht, run_underlying htx, sizeOf, typeInfo, zeroValue, hi, hz, asInt, asIntOf, hwrap, hneg, hbig, hm0, hn, h63', h48', Question.forced, hold, newRow, grownCap]
      congr 2
      apply Array.ext'
      simp [List.append_assoc]

section
variable {ρ : Ren} {h : H} {nx : Nat} {w : World} {E : Nat → Option Obj}

theorem srcK_ok (hs : HS ρ h nx w.heap E) {t tx e : TypeId} {i : TypeInfo} {zv : Value} {zeros : Bool} {x : AV} {cx : Value} {z : List AV} {k : Nat → List AV → Bool} (hx : VR ρ x cx) (hz : zerosArg P (some tx) = some zeros)
    (ht : P.underlying t = some (.slice e)) (hi : P.info? e = some i) (hzv : i.zero = some zv) (hzc : VRs ρ z zv.cells.toList) (hz1 : AV.allOne z = true) (hzl : z.length = i.size) (hb : i.bytes < 2 ^ 20)
    (hk : srcK h i.size zeros x z k = true) : ∃ m new news, k m new = true ∧ SrcR P i t tx e cx m news w ∧ VRs ρ new news ∧ ∀ v ∈ news, flatV v := by
  unfold srcK at hk
  split at hk
  · rename_i kd n
    simp only [VR] at hx
    subst hx
    obtain ⟨h1, hk1⟩ := onTrue_true hk
    subst h1
    obtain ⟨m, hm, hk2⟩ := onNat_true hk1
    obtain ⟨h2, hk3⟩ := onTrue_true hk2
    subst hm
    have h2 : m < 2 ^ 20 := by simpa using h2
    obtain ⟨kd', htx⟩ := zerosArg_true hz
    have hlen := hzc.length
    rw [Array.length_toList] at hlen
    have hvr : VRs ρ (repeatL z m) (Builtin.zeroCells zv.cells m).toList := by
      by_cases h0 : m * i.size = 0
      · have : repeatL z m = [] := List.eq_nil_of_length_eq_zero (by rw [repeatL_length, hzl]; exact h0)
        rw [this, zeroCells_none _ (hlen.trans hzl) h0]
        exact VRs_nil.2 rfl
      · have := VRs_zeroRow hzc (m * zv.cells.size) (.inr (pos_of_mul hzl h0)) m (by rw [hlen])
        exact this
    exact ⟨m, _, _, hk3, SrcR.of_zeros ht hi htx hzv (hlen.trans hzl) h2 hb, hvr, flats_of_allOne hvr (allOne_repeat hz1 m)⟩
  all_goals first | (cases hk; done) | skip
  · simp only [VR] at hx
    subst hx
    obtain ⟨h1, hk⟩ := onTrue_true hk
    have h1 : zeros = false := by simpa using h1
    subst h1
    exact ⟨0, [], [], hk, SrcR.of_src ht hi ⟨zerosArg_false hz, fun _ => rfl, run_firstCells_none w i.size 0 0 0, run_firstCells_none w.drew i.size 0 0 0, by simp, fun _ h => by cases h⟩, VRs_nil.2 rfl, fun v hv => by cases hv⟩
  · rename_i b o len cap ex s
    simp only [VR] at hx
    obtain ⟨L, co, c, hL, rfl, hex, hcap, hlen, hpos⟩ := hx
    obtain ⟨h1, hk2⟩ := onTrue_true hk
    simp only [Bool.and_eq_true, Bool.not_eq_true', beq_iff_eq] at h1
    obtain ⟨h1, hsz⟩ := h1
    subst h1 hsz
    obtain ⟨n', t', z', hb', hk3⟩ := Blk.onCells_true hk2
    obtain ⟨hq, l, hl, hcells, hk4⟩ := cellsAt_true hk3
    obtain ⟨vs, v1, v2, v3, v4⟩ := hs.cells hb' hL hq hl hcells
    have hc : ∀ w' : World, w'.heap = w.heap → (Builtin.firstCells i.size len (.slice (some ⟨L.blk, co, none⟩) len c)).run P w' = .ok vs.toArray w' := fun w' hw' => by
      simp only [Builtin.firstCells]
      rw [← v1]
      refine run_loadCells vs fun j v hj => ?_
      have hjl : j < len * i.size := by
        have := (List.getElem?_eq_some_iff.1 hj).1
        rw [v1] at this; exact this
      have hmp : 0 < len := by
        rcases Nat.eq_zero_or_pos len with h0 | h0
        · rw [h0] at hjl; simp at hjl
        · exact h0
      rw [(hpos (by omega)).1]
      have := v3 j v hj
      simp only [World.cell?, hw'] at this ⊢
      exact this
    exact ⟨len, l, vs, hk4, SrcR.of_src ht hi ⟨zerosArg_false hz, fun _ => rfl, hc w rfl, hc w.drew rfl, v1, fun u hu => flat_oneCell (v4 u hu)⟩, v2, v4⟩
  · rename_i l
    simp only [VR] at hx
    subst hx
    obtain ⟨h1, hk2⟩ := onTrue_true hk
    simp only [Bool.and_eq_true, Bool.not_eq_true', beq_iff_eq] at h1
    obtain ⟨h1, hsz⟩ := h1
    subst h1
    have hbytes : Go.byteCells ⟨⟨l⟩⟩ = l.map fun b => Value.int .u8 b.toNat := rfl
    refine ⟨l.length, byteCells l, l.map fun b => Value.int .u8 b.toNat, hk2, SrcR.of_src ht hi ⟨zerosArg_false hz, fun _ => rfl, ?_, ?_, by simp [hsz], ?_⟩, VRs_bytes l, flats_of_allOne (VRs_bytes (ρ := ρ) l) (allOne_bytes l)⟩
    · rw [← hbytes, hsz]; exact firstCells_string ⟨⟨l⟩⟩ w
    · rw [← hbytes, hsz]; exact firstCells_string ⟨⟨l⟩⟩ w.drew
    · intro u hu
      obtain ⟨_, _, rfl⟩ := List.mem_map.1 hu
      rfl

/-- The cells behind an append. -/
theorem cellOf_app {t : T AV} {z old new : List AV} {o q : Nat} (hc : ∀ i, i < q → cellOf t z (o + i) = old[i]?) (hl : old.length = q) {i : Nat} (hi : i < q + new.length) :
    cellOf (setCells t new (o + q)) z (o + i) = (old ++ new)[i]? := by
  by_cases hq : i < q
  · rw [List.getElem?_append_left (by omega), ← hc i hq]
    unfold cellOf
    rw [get_setCells, if_neg (by omega)]
  · rw [List.getElem?_append_right (by omega)]
    unfold cellOf
    rw [get_setCells, if_pos (by omega), show o + i - (o + q) = i - old.length from by omega, List.getElem?_eq_getElem (by omega)]

theorem append_two {ts : Array TypeId} {t tx ty : TypeId} {args : Array Value} (h0 : ts[0]? = some t) (h1 : ts[1]? = some tx) : Builtin.append_ ts ty args = Builtin.append_ #[t, tx] ty args := by
  unfold Builtin.append_
  simp [h0, h1]

theorem append_grow_ok (hs : HS ρ h nx w.heap E) (hn : nx < 3583) {k : K} {ts : Array TypeId} {t tx ty e : TypeId} {i : TypeInfo} {zv : Value} (h0 : ts[0]? = some t) (h1 : ts[1]? = some tx)
    (ht : P.underlying t = some (.slice e)) (hi : P.info? e = some i) (hz : i.zero = some zv) (hzl : zv.cells.size = i.size) {base : Option Addr} {len cap : Nat} {old : List AV} {olds : List Value}
    (hold : (Builtin.firstCells i.size len (.slice base len cap)).run P w.drew = .ok olds.toArray w.drew) (hol : olds.length = len * i.size) {x : Value} {m : Nat} {new : List AV} {news : List Value}
    (hsrc : SrcR P i t tx e x m news w) (hr : VRs ρ (old ++ new) (olds ++ news)) (hf : ∀ v ∈ olds ++ news, flatV v) (hg : cap < len + m) (hneed : len + m < 2 ^ 20) (hb : i.bytes < 2 ^ 20)
    {t' : T AV} {z' : List AV} (htab : ∀ j, j < (len + m) * i.size → cellOf t' z' j = (old ++ new)[j]?)
    (hk : k (.val (.slice nx 0 (len + m) (len + m) false i.size) (h.set nx (.cells ((len + m) * i.size) t' z')) (nx + 1)) = true) :
    ActRes P (do pure (.value (← Builtin.append_ ts ty #[.slice base len cap, x]))) ρ nx w E k := by
  have hbb : (len + m) * i.bytes ≤ 140737488355328 := by
    have := Nat.mul_le_mul (Nat.le_of_lt hneed) (Nat.le_of_lt hb)
    omega
  have hrun := hsrc.grow ty zv hz base len cap olds hold hg (by omega) (growslice_fits hg hbb)
  rw [← append_two h0 h1] at hrun
  have hge := grownCap_ge w (len + m) cap e
  generalize grownCap w (len + m) cap e = c at hrun hge
  have hlen := hsrc.newsLen
  generalize harr : (olds ++ news).toArray ++ Builtin.zeroCells zv.cells (c - (len + m)) = arr at hrun
  have hsize : arr.size = c * i.size := by
    rw [← harr, Array.size_append, size_zeroCells, hzl, List.size_toArray, List.length_append, hol, hlen, ← Nat.add_mul, ← Nat.add_mul]
    congr 1
    omega
  have hle : (len + m) * i.size ≤ c * i.size := Nat.mul_le_mul_right _ hge
  have hrl := hr.length
  rw [List.length_append, hol, hlen, ← Nat.add_mul] at hrl
  let L : Loc := ⟨w.heap.size, 0, arr.size⟩
  have hmono := VRs.mono (Ren.le_put L hs.fresh) _ hr
  refine ⟨_, _, _, _, _, _, ρ.put nx L, hk, run_v hrun, .inl rfl, Ren.ext_put L hs.fresh, Nat.le_succ nx, SO.push (o := .cells arr e) rfl rfl rfl, ?_, ?_⟩
  · simp only [VR]
    exact ⟨L, 0, c, Ren.put_same _ _ _, rfl, fun h => (by cases h), hge, Nat.le_refl _, fun _ => ⟨rfl, by show 0 + c * i.size ≤ arr.size; omega⟩⟩
  · refine hs.new hn (o := .cells arr e) (L := L) rfl fun _ => ?_
    refine BR_new rfl rfl rfl (by omega) (fun o _ h => by simp at h) hmono hf (by omega) htab fun j hj => ?_
    rw [← harr, Array.getElem?_append_left (by simp [hol, hlen, ← Nat.add_mul]; exact hj)]
    simp

theorem brec_true {x y b : Bool} (h : @Bool.rec (fun _ => Bool) x y b = true) : (b = false ∧ x = true) ∨ (b = true ∧ y = true) := by
  cases b
  · exact .inl ⟨rfl, h⟩
  · exact .inr ⟨rfl, h⟩

theorem run_append_room {w' : World} {ts : Array TypeId} {t tx ty e : TypeId} {i : TypeInfo} (h0 : ts[0]? = some t) (h1 : ts[1]? = some tx)
    {b off len cap : Nat} {x : Value} {m : Nat} {news : List Value} (hs : SrcR P i t tx e x m news w) (hroom : len + m ≤ cap)
    (hst : (storeCells ⟨b, off + len * i.size, none⟩ news 0).run P w = .ok () w') :
    (Builtin.append_ ts ty #[.slice (some ⟨b, off, none⟩) len cap, x]).run P w = .ok (.slice (some ⟨b, off, none⟩) (len + m) cap) w' := by
  rw [append_two h0 h1]
  exact hs.room ty b off len cap w' hroom hst

theorem appendTo_ok (hs : HS ρ h nx w.heap E) {k : K} {ts : Array TypeId} {t tx ty e : TypeId} {i : TypeInfo} {zv : Value} (h0 : ts[0]? = some t) (h1 : ts[1]? = some tx)
    (ht : P.underlying t = some (.slice e)) (hi : P.info? e = some i) (hz : i.zero = some zv) (hzl : zv.cells.size = i.size) {b o len cap : Nat} {ex : Bool} {cs x : Value} {m : Nat} {new : List AV} {news : List Value}
    (hd : VR ρ (.slice b o len cap ex i.size) cs) (hsrc : SrcR P i t tx e x m news w) (hnew : VRs ρ new news) (hfn : ∀ v ∈ news, flatV v) (hb : i.bytes < 2 ^ 20)
    (hk : appendTo b o len cap ex i.size m new h nx k = true) :
    ActRes P (do pure (.value (← Builtin.append_ ts ty #[cs, x]))) ρ nx w E k := by
  have hd0 := hd
  simp only [VR] at hd
  obtain ⟨L, co, c, hL, rfl, hex, hcap, hlen, hpos⟩ := hd
  unfold appendTo at hk
  rw [forceN_eq] at hk
  obtain ⟨n, tb, z, hbk, hk⟩ := Blk.onCells_true hk
  have hnl := hnew.length
  have hsl := hsrc.newsLen
  have hlive : h.get b ≠ .dead := by rw [hbk]; simp
  obtain ⟨K, hK, hB, hblt⟩ := hs.liveL hlive hL
  rw [hL] at hK; cases hK
  rw [hbk] at hB
  obtain ⟨c0, e0, fr, g1, g2, g3, g4, g5⟩ := hB
  have hbnx : b ≠ nx := by have := hs.dom b L hL; omega
  -- the old cells
  have hcells : ∀ old : List AV, old.length = len * i.size → (len * i.size = 0 ∨ o + len * i.size ≤ n) → (∀ j, j < len * i.size → cellOf tb z (o + j) = old[j]?) →
      ∃ olds : List Value, olds.length = len * i.size ∧ VRs ρ (old ++ new) (olds ++ news) ∧ (∀ v ∈ olds ++ news, flatV v) ∧
        (Builtin.firstCells i.size len (.slice (some ⟨L.blk, co, none⟩) len c)).run P w.drew = .ok olds.toArray w.drew := by
    intro old hol hq hc
    obtain ⟨vs, v1, v2, v3, v4⟩ := hs.cells hbk hL hq hol hc
    refine ⟨vs, v1, v2.append hnew, fun v hv => ?_, ?_⟩
    · rcases List.mem_append.1 hv with hv | hv
      · exact v4 v hv
      · exact hfn v hv
    · simp only [Builtin.firstCells]
      rw [← v1]
      refine run_loadCells vs fun j v hj => ?_
      have hjl : j < len * i.size := by
        have := (List.getElem?_eq_some_iff.1 hj).1
        rw [v1] at this; exact this
      have hmp : 0 < len := by
        rcases Nat.eq_zero_or_pos len with h0 | h0
        · rw [h0] at hjl; simp at hjl
        · exact h0
      rw [(hpos (by omega)).1]
      have := v3 j v hj
      simp only [World.cell?, heap_drew] at this ⊢
      exact this
  -- a new row
  have hgrow : ∀ (old : List AV) (h' : H) (t' : T AV) (z' : List AV), HS ρ h' nx w.heap E → c < len + m → len + m < 2 ^ 20 → old.length = len * i.size → (len * i.size = 0 ∨ o + len * i.size ≤ n) →
      (∀ j, j < len * i.size → cellOf tb z (o + j) = old[j]?) → (∀ j, j < (len + m) * i.size → cellOf t' z' j = (old ++ new)[j]?) →
      newB (.slice nx 0 (len + m) (len + m) false i.size) (.cells ((len + m) * i.size) t' z') h' nx k = true →
      ActRes P (do pure (.value (← Builtin.append_ ts ty #[.slice (some ⟨L.blk, co, none⟩) len c, x]))) ρ nx w E k := by
    intro old h' t' z' hs' hg hneed hol hq hc htab hk
    obtain ⟨olds, o1, o2, o3, o4⟩ := hcells old hol hq hc
    obtain ⟨hlt, hk⟩ := newB_true hk
    exact append_grow_ok hs' hlt h0 h1 ht hi hz hzl o4 o1 hsrc o2 o3 hg hneed hb htab hk
  rcases brec_true hk with ⟨hble, hk⟩ | ⟨hble, hk⟩
  · -- perhaps no room
    have hneed : cap < len + m := Nat.lt_of_not_le fun hh => by rw [Nat.ble_eq_true_of_le hh] at hble; cases hble
    obtain ⟨hc2, hk⟩ := onTrue_true hk
    simp only [Bool.and_eq_true, decide_eq_true_eq] at hc2
    obtain ⟨hlim, hon⟩ := hc2
    rcases brec_true hk with ⟨hexf, hk⟩ | ⟨hext, hk⟩
    · -- either
      have both : ∀ (old : List AV) (t' : T AV) (z' : List AV), old.length = len * i.size → (∀ j, j < len * i.size → cellOf tb z (o + j) = old[j]?) →
          (∀ j, j < (len + m) * i.size → cellOf t' z' j = (old ++ new)[j]?) →
          newB (.slice nx 0 (len + m) (len + m) false i.size) (.cells ((len + m) * i.size) t' z') (h.set b .dead) nx k = true →
          ActRes P (do pure (.value (← Builtin.append_ ts ty #[.slice (some ⟨L.blk, co, none⟩) len c, x]))) ρ nx w E k := by
        intro old t' z' hol hc htab hk
        by_cases hroom : len + m ≤ c
        · obtain ⟨hco, hsz⟩ := hpos (by omega)
          have hmul : (len + m) * i.size ≤ c * i.size := Nat.mul_le_mul_right _ hroom
          rw [Nat.add_mul] at hmul
          obtain ⟨w', q1, q2, q3⟩ := hs.write (P := P) (m' := o + (len + m) * i.size) hbk hL (o := o + len * i.size) hnew hfn (by omega) (by rw [Nat.add_mul]; omega) (by omega) rfl
          obtain ⟨hlt, hk⟩ := newB_true hk
          have hget := H.get_set_same h b (.cells (o + (len + m) * i.size) (setCells tb new (o + len * i.size)) z)
          have hlive' : (h.set b (.cells (o + (len + m) * i.size) (setCells tb new (o + len * i.size)) z)).get b ≠ .dead := by rw [hget]; simp
          obtain ⟨K, hK, hB, hblt'⟩ := q2.liveL hlive' hL
          rw [hL] at hK; cases hK
          rw [hget] at hB
          obtain ⟨c1, e1, fr1, f1, f2, f3, f4, f5⟩ := hB
          have hb84 := hs.lt hL
          have hkill := (q2.kill hL).congr (h' := h.set b .dead) fun j => by
            by_cases ej : j = b
            · subst ej; rw [H.get_set_same, H.get_set_same]
            · rw [H.get_set_ne _ _ hb84 ej, H.get_set_ne _ _ hb84 ej, H.get_set_ne _ _ hb84 ej]
          have hnb : ∀ i', (h.set b .dead).get i' ≠ .dead → i' ≠ b ∧ (h.set b (.cells (o + (len + m) * i.size) (setCells tb new (o + len * i.size)) z)).get i' ≠ .dead := fun i' hi' => by
            by_cases ej : i' = b
            · subst ej; rw [H.get_set_same] at hi'; exact absurd rfl hi'
            · rw [H.get_set_ne _ _ hb84 ej] at hi' ⊢; exact ⟨ej, hi'⟩
          let L' : Loc := ⟨L.blk, L.off + o, L.size⟩
          refine ⟨_, _, _, .slice (some ⟨L.blk, co, none⟩) (len + m) c, _, w', ρ.put nx L', hk, run_v (run_append_room h0 h1 hsrc hroom (by rw [hco, Nat.add_assoc]; exact q1)), .inl rfl, Ren.ext_put L' hs.fresh, Nat.le_succ nx, q3, ?_, ?_⟩
          · simp only [VR]
            exact ⟨L', co, c, Ren.put_same _ _ _, rfl, fun h => (by cases h), hroom, Nat.le_refl _, fun _ => ⟨hco, hsz⟩⟩
          · refine hkill.bind (L := L') hlt (fun i' K hi' hK => q2.inj i' b K L (hnb i' hi').2 hlive' (hnb i' hi').1 hK hL) hblt' (fun j o' hj => Ne.symm ((q2.ext j o' hj).2 b L hlive' hL)) fun _ => ?_
            refine ⟨c1, e1, fr1, f1, f2, by show L.off + o + _ ≤ _; omega, f4, fun j hj => ?_⟩
            obtain ⟨a, ha, v, hv, hvr, hvf⟩ := f5 (o + j) (by omega)
            rw [cellOf_app hc hol (by rw [← hnl, hsl, ← Nat.add_mul]; exact hj)] at ha
            exact ⟨a, by rw [htab j hj]; exact ha, v, by show c1[L.off + o + j]? = _; rw [Nat.add_assoc]; exact hv, VR.mono (Ren.le_put L' hs.fresh) _ hvr, hvf⟩
        · exact hgrow old _ t' z' (hs.kill hL) (by omega) hlim hol (.inr hon) hc htab hk
      rcases brec_true hk with ⟨_, hk⟩ | ⟨ho, hk⟩
      · obtain ⟨_, old, hol, hc, hk⟩ := cellsAt_true hk
        rw [H.setK_eq] at hk
        exact both old _ _ hol hc (fun j hj => cellOf_ofList _ _ (by rw [List.length_append, hol, ← hnl, hsl, ← Nat.add_mul]; exact hj)) hk
      · have ho : o = 0 := by simpa using ho
        subst ho
        rw [forceN_eq, H.setK_eq] at hk
        have hex : ∀ q ≤ len * i.size, ∃ old : List AV, old.length = q ∧ ∀ j, j < q → cellOf tb z (0 + j) = old[j]? := by
          intro q hq
          induction q with
          | zero => exact ⟨[], rfl, fun j hj => absurd hj (by omega)⟩
          | succ q ih =>
            obtain ⟨old, l1, l2⟩ := ih (by omega)
            obtain ⟨a, ha, _⟩ := g5 q (by omega)
            refine ⟨old ++ [a], by simp [l1], fun j hj => ?_⟩
            by_cases ej : j < q
            · rw [l2 j ej, List.getElem?_append_left (by omega)]
            · have : j = q := by omega
              subst this
              rw [Nat.zero_add, ha, List.getElem?_append_right (by omega), l1]
              simp
        obtain ⟨old, hol, hc⟩ := hex _ (Nat.le_refl _)
        refine both old _ _ hol hc (fun j hj => ?_) hk
        have := cellOf_app (new := new) hc hol (i := j) (by rw [← hnl, hsl, ← Nat.add_mul]; exact hj)
        simpa using this
    · obtain ⟨_, old, hol, hc, hk⟩ := cellsAt_true hk
      have hcc := hex hext
      exact hgrow old _ _ _ hs (by omega) hlim hol (.inr hon) hc (fun j hj => cellOf_ofList _ _ (by rw [List.length_append, hol, ← hnl, hsl, ← Nat.add_mul]; exact hj)) hk
  · -- room
    have hroom : len + m ≤ cap := by simpa [Nat.ble_eq] using hble
    obtain ⟨hle, hk⟩ := onTrue_true hk
    have hle : o + (len + m) * i.size ≤ n := by simpa using hle
    rw [H.setK_eq] at hk
    rw [Nat.add_mul] at hle
    obtain ⟨w', q1, q2, q3⟩ := hs.write (P := P) (m' := n) hbk hL (o := o + len * i.size) hnew hfn (by omega) (by omega) (by omega) rfl
    have hst : ∃ w'', (storeCells ⟨L.blk, co + len * i.size, none⟩ news 0).run P w = .ok () w'' ∧ HS ρ (h.set b (.cells n (setCells tb new (o + len * i.size)) z)) nx w''.heap E ∧ SO w w'' := by
      by_cases hc0 : 0 < c
      · rw [(hpos hc0).1, Nat.add_assoc]; exact ⟨w', q1, q2, q3⟩
      · have hm0 : m = 0 := by omega
        subst hm0
        have : news = [] := List.eq_nil_of_length_eq_zero (by rw [hsl]; simp)
        subst this
        simp only [storeCells, Sem.run_pure] at q1
        cases q1
        exact ⟨w, by simp [storeCells], q2, SO.refl w⟩
    obtain ⟨w'', s1, s2, s3⟩ := hst
    refine ⟨_, _, _, .slice (some ⟨L.blk, co, none⟩) (len + m) c, _, w'', ρ, hk, run_v (run_append_room h0 h1 hsrc (by omega) s1), .inl rfl, Ren.ext_refl nx ρ, Nat.le_refl nx, s3, ?_, s2⟩
    simp only [VR]
    exact ⟨L, co, c, hL, rfl, hex, hcap, hroom, hpos⟩

theorem appendA_ok (hs : HS ρ h nx w.heap E) {k : K} {ts : Array TypeId} {ty : TypeId} {d x : AV} {cd cx : Value} (hd : VR ρ d cd) (hx : VR ρ x cx) (hk : appendA P ts d x h nx k = true) :
    ActRes P (do pure (.value (← Builtin.append_ ts ty #[cd, cx]))) ρ nx w E k := by
  obtain ⟨t, ht, hk⟩ := onSome_true (show onSome (typeAt ts 0) _ = true from hk)
  obtain ⟨tx, htx, hk⟩ := onSome_true hk
  have ht : ts[0]? = some t := ht
  have htx : ts[1]? = some tx := htx
  obtain ⟨e, he, hk⟩ := onSome_true hk
  obtain ⟨inf, htd, hinf, hsz, hby⟩ := sliceElem_some he
  obtain ⟨z, hz, hk⟩ := onSome_true hk
  obtain ⟨hc, hk⟩ := onTrue_true hk
  simp only [Bool.and_eq_true, beq_iff_eq, decide_eq_true_eq] at hc
  obtain ⟨⟨⟨hz1, hz2⟩, _⟩, hb⟩ := hc
  obtain ⟨zeros, hza, hk⟩ := onSome_true hk
  obtain ⟨i, zv, hi, hzv, hzc⟩ := zero_cells hz hz1 ρ
  rw [hinf] at hi; cases hi
  have hzl := hzc.length
  rw [Array.length_toList] at hzl
  rw [← hsz] at hk hz2
  rw [← hby] at hb
  obtain ⟨m, new, news, hk, hsrc, hnew, hfn⟩ := srcK_ok hs hx hza htd hinf hzv hzc hz1 hz2 hb hk
  split at hk
  · simp only [VR] at hd
    subst hd
    cases m with
    | zero =>
      refine ⟨_, _, _, .slice none 0 0, _, w, ρ, hk, run_v ?_, .inl rfl, Ren.ext_refl nx ρ, Nat.le_refl nx, SO.refl w, by simp only [VR], hs⟩
      rw [append_two ht htx]
      exact hsrc.nil0 ty rfl
    | succ m =>
      obtain ⟨hm, hk⟩ := onTrue_true hk
      have hm : m + 1 < 2 ^ 20 := by simpa using hm
      obtain ⟨hlt, hk⟩ := newB_true hk
      have hsl := hsrc.newsLen
      have hnl := hnew.length
      refine append_grow_ok hs hlt ht htx htd hinf hzv (by omega) (old := []) (olds := []) (run_firstCells_none w.drew inf.size 0 0 0) (by simp) hsrc hnew hfn
        (by omega) (by omega) hb (t' := T.ofList new) (z' := []) (fun j hj => by rw [cellOf_ofList _ _ (by rw [← hnl, hsl]; simpa using hj)]; simp) (by simpa using hk)
  · rename_i b o len cap ex sz
    obtain ⟨hcc, hk⟩ := onTrue_true hk
    simp only [Bool.and_eq_true, beq_iff_eq] at hcc
    obtain ⟨hs1, hs2⟩ := hcc
    subst hs1
    exact appendTo_ok hs ht htx htd hinf hzv (by omega) hd hsrc hnew hfn hb hk
  · cases hk
end

end Go.Proofs.YtfcoffpmcmhieaaGreatDoor.AI
namespace Go.Proofs.YtfcoffpmcmhieaaGreatDoor.AI
variable {P : Program}

/-- A deferred call. -/
def DR (ρ : Ren) : ADef → Deferred → Prop
  | .collected b, d => ∃ L, ρ b = some L ∧ d = { target := .collected L.blk, args := #[] }
  | .call f args, d => ∃ as caps, d = { target := .fn (.func f) caps, args := as } ∧ VRs ρ args (as ++ caps).toList

theorem DR.mono {ρ ρ' : Ren} (hle : ρ.le ρ') {a : ADef} {d : Deferred} (h : DR ρ a d) : DR ρ' a d := by
  cases a with
  | collected b => obtain ⟨L, h1, h2⟩ := h; exact ⟨L, hle _ _ h1, h2⟩
  | call f args => obtain ⟨as, caps, h1, h2⟩ := h; exact ⟨as, caps, h1, VRs.mono hle _ h2⟩

/-- No function of the program is the one that counts goroutines. -/
def NoCount (P : Program) : Prop := ∀ (f : FuncId) (fn : Func), P.funcs[f]? = some fn → (fn.name == "runtime.NumGoroutine") = false

def EnterRes (P : Program) (s : Sem Next) (ρ : Ren) (w : World) (k : K) : Prop :=
  ∃ f args cargs, k (.enter f args) = true ∧ VRs ρ args cargs.toList ∧ s.run P w = (callFunc f cargs).run P w
def RoundRes (P : Program) (s : Sem Next) (ρ : Ren) (w : World) (k : K) : Prop :=
  ∃ l args cargs L, k (.round l args) = true ∧ ρ l = some L ∧ VRs ρ args cargs.toList ∧ s.run P w = (Instr.yield L.blk cargs).run P w
def DeferRes (P : Program) (c : Call) (ty : TypeId) (v : Operand → Value) (ρ : Ren) (w : World) (k : K) : Prop :=
  ∃ d d', k (.defer d) = true ∧ DR ρ d d' ∧ (resolve v c ty).run P w = .ok d' w
def RecoverRes (P : Program) (s : Sem Next) (w : World) (k : K) : Prop := k .recover = true ∧ s.run P w = .ok .recover w

theorem run_callFunc (hn : NoCount P) {f : FuncId} {fn : Func} {body : Code} {cargs : Array Value} {w : World} (hf : P.funcs[f]? = some fn) (hb : fn.body = some body) :
    (callFunc f cargs).run P w = .ok (.enter f cargs) w := by
  have : ¬ fn.name = "runtime.NumGoroutine" := by simpa using hn f fn hf
  unfold callFunc
  simp [hf, hb, this]

section
variable {ρ : Ren} {h : H} {nx : Nat} {w : World} {E : Nat → Option Obj} {n : Nat} {r : R} {a : Act} {k : K}

theorem callVal_ok {f : AV} {cf : Value} {args : List AV} {cargs : Array Value} (hf : VR ρ f cf) (ha : VRs ρ args cargs.toList) (hk : callVal f args k = true) :
    EnterRes P (do let d ← Deferred.ofValue cf cargs; invoke d.target d.args) ρ w k ∨ RoundRes P (do let d ← Deferred.ofValue cf cargs; invoke d.target d.args) ρ w k := by
  unfold callVal at hk
  split at hk
  · rename_i g caps
    simp only [VR] at hf
    obtain ⟨cs, rfl, hcs⟩ := hf
    refine .inl ⟨g, args ++ caps, cargs ++ cs, hk, by rw [Array.toList_append]; exact ha.append hcs, by simp [Deferred.ofValue, invoke]⟩
  · rename_i g v
    simp only [VR] at hf
    obtain ⟨x, rfl, hx⟩ := hf
    refine .inl ⟨g, v :: args, #[x] ++ cargs, hk, by rw [Array.toList_append]; exact VRs_cons_cons.2 ⟨hx, ha⟩, by simp [Deferred.ofValue, invoke]⟩
  · rename_i l
    simp only [VR] at hf
    obtain ⟨L, hL, rfl⟩ := hf
    exact .inr ⟨l, args, cargs, L, hk, hL, ha, by simp [Deferred.ofValue, invoke]⟩
  · cases hk

theorem methA_ok {t : TypeId} {name : String} {f : FuncId} (hm : methA P t name = some f) (v : Value) (w : World) :
    (method (P.types.size + Made.depth) t v name).run P w = .ok (f, v) w := by
  unfold methA at hm
  obtain ⟨i, hi, hm⟩ := Option.bind_eq_some_iff.1 hm
  obtain ⟨m, hfind, hm⟩ := Option.bind_eq_some_iff.1 hm
  have hd0 : 0 < Made.depth := by decide
  obtain ⟨q, hq⟩ : ∃ q, P.types.size + Made.depth = q + 1 := ⟨P.types.size + Made.depth - 1, by omega⟩
  rw [hq]
  split at hm
  · rename_i hp
    have hp : m.path = #[] := by simpa using hp
    unfold method
    split at hm
    · rename_i f' e hf hd
      simp only [Option.some.injEq] at hm; subst hm
      simp [run_typeInfo hi, hfind, hp, follow, hf, receiverAt, run_underlying hd, Place.get]
    · cases hm
    · rename_i f' d hno hf hd
      simp only [Option.some.injEq] at hm; subst hm
      cases d <;> first | (simp [run_typeInfo hi, hfind, hp, follow, hf, receiverAt, run_underlying hd, Place.get]; done) | exact absurd hf (by simp_all)
    · cases hm
  · cases hm

theorem retI_act (hs : HS ρ h nx w.heap E) {ka : IntKind} {m : Int} {s : Sem Value} (hk : retI ka h nx k m = true) (hr : s.run P w = .ok (.int ka m) w) : QuietRes P (do pure (.value (← s))) ρ h nx w k := by
  have := hs
  exact ⟨_, _, hk, run_v hr, by simp only [VR]⟩

theorem VRs_one {x : AV} {vs : Array Value} (hv : VRs ρ [x] vs.toList) : ∃ v, vs = #[v] ∧ VR ρ x v := by
  obtain ⟨v, r, h1, h2, h3⟩ := VRs_cons.1 hv
  rw [VRs_nil] at h3
  subst h3
  exact ⟨v, Array.ext' h1, h2⟩
theorem VRs_two {x y : AV} {vs : Array Value} (hv : VRs ρ [x, y] vs.toList) : ∃ u v, vs = #[u, v] ∧ VR ρ x u ∧ VR ρ y v := by
  obtain ⟨v, r, h1, h2, h3⟩ := VRs_cons.1 hv
  obtain ⟨v', r', h1', h2', h3'⟩ := VRs_cons.1 h3
  rw [VRs_nil] at h3'
  subst h3' h1'
  exact ⟨v, v', Array.ext' h1, h2, h2'⟩

theorem builtinK_ok (hs : HS ρ h nx w.heap E) {b : Builtin} {ts : Array TypeId} {ty : TypeId} {cts : Array Bool} {args : List AV} {cargs : Array Value} (ha : VRs ρ args cargs.toList) (hk : builtinK b ts args P h nx k = true) :
    QuietRes P (builtin b ts ty cts cargs) ρ h nx w k ∨ ActRes P (builtin b ts ty cts cargs) ρ nx w E k ∨ RecoverRes P (builtin b ts ty cts cargs) w k := by
  unfold builtinK at hk
  split at hk
  · obtain ⟨v, rfl, hv⟩ := VRs_one ha
    obtain ⟨m, hk, hr⟩ := lenA_ok hs (ty := ty) hv hk
    exact .inl (retI_act hs hk hr)
  · obtain ⟨u, v, rfl, hu, hv⟩ := VRs_two ha
    exact .inr (.inl (appendA_ok hs hu hv hk))
  · obtain ⟨v, rfl, hv⟩ := VRs_one ha
    obtain ⟨m, hk, hr⟩ := capA_ok (ty := ty) hv hk
    exact .inl (retI_act hs hk hr)
  · obtain ⟨u, v, rfl, hu, hv⟩ := VRs_two ha
    exact .inr (.inl (copyA_ok hs hu hv hk))
  · obtain ⟨vs, hvs, hk⟩ := onSome_true hk
    obtain ⟨v, hv, hk⟩ := onSome_true hk
    have := VRs_toVs ha hvs
    have : cargs = ⟨vs⟩ := Array.ext' this
    subst this
    exact .inl ⟨_, v, hk, run_v (pureRun_run hv w), VR_ofV ρ v⟩
  · obtain ⟨vs, hvs, hk⟩ := onSome_true hk
    obtain ⟨v, hv, hk⟩ := onSome_true hk
    have := VRs_toVs ha hvs
    have : cargs = ⟨vs⟩ := Array.ext' this
    subst this
    exact .inl ⟨_, v, hk, run_v (pureRun_run hv w), VR_ofV ρ v⟩
  · obtain ⟨v, rfl, hv⟩ := VRs_one ha
    exact .inr (.inl (clearA_ok hs hv hk))
  · obtain ⟨u, v, rfl, hu, hv⟩ := VRs_two ha
    exact .inr (.inl (deleteA_ok hs hu hv hk))
  · exact .inr (.inr ⟨hk, rfl⟩)
  · cases hk

theorem opCall_ok (s : Sit ρ h nx w E n r a) {c : Call} {ty : TypeId} (hk : opCall c P r h nx k = true) :
    QuietRes P (do let d ← resolve a.eval c ty; invoke d.target d.args) ρ h nx w k ∨ ActRes P (do let d ← resolve a.eval c ty; invoke d.target d.args) ρ nx w E k ∨
      EnterRes P (do let d ← resolve a.eval c ty; invoke d.target d.args) ρ w k ∨ RoundRes P (do let d ← resolve a.eval c ty; invoke d.target d.args) ρ w k ∨
      RecoverRes P (do let d ← resolve a.eval c ty; invoke d.target d.args) w k := by
  have ha := evs_ok' s c.args
  obtain ⟨callee, args, ts⟩ := c
  unfold opCall at hk
  cases callee with
  | value f =>
    have hk : callVal (ev h r f) (evs h r args.toList) k = true := hk
    rcases callVal_ok (P := P) (w := w) (ev_ok s f) ha hk with he | he
    · exact .inr (.inr (.inl he))
    · exact .inr (.inr (.inr (.inl he)))
  | invoke recv name =>
    have hk : (match ev h r recv with | .iface t v => onSome (methA P t name) fun f => k (.enter f (v :: evs h r args.toList)) | _ => false) = true := hk
    have hr := ev_ok s recv
    split at hk
    · rename_i t v he
      rw [he] at hr
      simp only [VR] at hr
      obtain ⟨x, hx, hv⟩ := hr
      obtain ⟨f, hf, hk⟩ := onSome_true hk
      refine .inr (.inr (.inl ⟨f, _, #[x] ++ args.map a.eval, hk, by simpa [VRs_cons_cons] using ⟨hv, by simpa using ha⟩, ?_⟩))
      have h0 : (#[Value.iface t x] ++ args.map a.eval)[0]? = some (Value.iface t x) := by rw [← Array.getElem?_toList, Array.toList_append]; rfl
      simp only [resolve, hx, Sem.run_bind, Sem.run_pure, Result.andThen_ok, invoke, h0, callMethod]
      have hx2 : (args.map a.eval).extract 0 args.size = args.map a.eval := by rw [show args.size = (args.map a.eval).size by simp]; exact Array.extract_size
      simp [methA_ok hf x w, hx2]
    · cases hk
  | builtin b =>
    have hk : builtinK b ts (evs h r args.toList) P h nx k = true := hk
    obtain ⟨cts, e⟩ : ∃ cts, (do let d ← resolve a.eval ⟨.builtin b, args, ts⟩ ty; invoke d.target d.args) = builtin b ts ty cts (args.map a.eval) := ⟨_, rfl⟩
    rw [e]
    rcases builtinK_ok s.hs (ty := ty) (cts := cts) ha hk with q | q | q
    · exact .inl q
    · exact .inr (.inl q)
    · exact .inr (.inr (.inr (.inr q)))

theorem opDefer_ok (s : Sit ρ h nx w E n r a) {c : Call} {ty : TypeId} (hk : opDefer c P r h nx k = true) : DeferRes P c ty a.eval ρ w k := by
  have ha := evs_ok' s c.args
  unfold opDefer at hk
  split at hk
  · rename_i f hc
    have hf := ev_ok s f
    split at hk
    · rename_i g caps he
      rw [he] at hf
      simp only [VR] at hf
      obtain ⟨cs, hcs, hcr⟩ := hf
      refine ⟨_, _, hk, ⟨c.args.map a.eval, cs, rfl, by rw [Array.toList_append]; exact ha.append hcr⟩, ?_⟩
      simp [resolve, hc, hcs, Deferred.ofValue]
    · cases hk
  · cases hk

/-- What an operation comes to. -/
def ExecRes (P : Program) (o : Oper) (a : Act) (ρ : Ren) (h : H) (nx : Nat) (w : World) (E : Nat → Option Obj) (k : K) : Prop :=
  QuietRes P (execOp a.eval o) ρ h nx w k ∨ MakeRes P (execOp a.eval o) ρ h nx w k ∨ ActRes P (execOp a.eval o) ρ nx w E k ∨ EnterRes P (execOp a.eval o) ρ w k ∨ RoundRes P (execOp a.eval o) ρ w k ∨
    (∃ c, o.op = .defer c ∧ DeferRes P c o.type a.eval ρ w k) ∨ RecoverRes P (execOp a.eval o) w k

theorem exec_ok (s : Sit ρ h nx w E n r a) {o : Oper} (hk : exec o.op P r h nx k = true) : ExecRes P o a ρ h nx w E k := by
  obtain ⟨dst, op, ty, pos, after, g⟩ := o
  cases op with
  | move x => exact .inl (opMove_ok s hk)
  | assign x => exact .inl (opMove_ok s hk)
  | pick c x y => exact .inl (opPick_ok s hk)
  | alloc t => exact .inr (.inl (opAlloc_ok s hk))
  | box t x => exact .inr (.inl (opBox_ok s hk))
  | build t ps => exact .inl (opBuild_ok s hk)
  | buildSlice t l ps => exact .inr (.inl (opBuildSlice_ok s hk))
  | insert t m y v => exact .inr (.inr (.inl (opMapUpdate_ok s hk)))
  | load t x => exact .inl (opLoad_ok s hk)
  | store t x y => exact .inr (.inr (.inl (opStore_ok s hk)))
  | nilCheck x => exact .inl (opNilCheck_ok s hk)
  | binOp op t x y u => exact .inl (opBin_ok (u := u) s hk)
  | unOp op t x => exact .inl (opUn_ok (t := t) s hk)
  | convert t u x => exact (opConvert_ok s hk).imp id .inl
  | makeInterface t x => exact .inl (opMakeInterface_ok s hk)
  | makeFunc f x y => exact .inl (opMakeFunc_ok s hk)
  | makeMap t x => exact .inr (.inl (opMakeMap_ok s hk))
  | makeSlice t l c => exact .inr (.inl (opMakeSlice_ok s hk))
  | slice t x lo hi mx => exact .inl (opSlice_ok s hk)
  | fieldAddr t x f => exact .inl (opFieldAddr_ok s hk)
  | field t x f => exact .inl (opField_ok s hk)
  | indexAddr t x i => exact .inl (opIndexAddr_ok s hk)
  | index t x i => exact .inl (opIndex_ok s hk)
  | lookup t x i ok => exact .inl (opLookup_ok s hk)
  | mapUpdate t m y v => exact .inr (.inr (.inl (opMapUpdate_ok s hk)))
  | range t x => exact .inr (.inl (opRange_ok s hk))
  | next x str => exact .inr (.inr (.inl (opNext_ok s hk)))
  | entry x => exact .inl (opEntry_ok s hk)
  | typeAssert x t u ok => exact .inl (opTypeAssert_ok s hk)
  | extract x i => exact .inl (opExtract_ok s hk)
  | call c =>
    rcases opCall_ok s (ty := ty) hk with q | q | q | q | q
    · exact .inl q
    · exact .inr (.inr (.inl q))
    · exact .inr (.inr (.inr (.inl q)))
    · exact .inr (.inr (.inr (.inr (.inl q))))
    · exact .inr (.inr (.inr (.inr (.inr (.inr q)))))
  | defer c => exact .inr (.inr (.inr (.inr (.inr (.inl ⟨c, rfl, opDefer_ok s hk⟩)))))
  | _ => cases hk

end

end Go.Proofs.YtfcoffpmcmhieaaGreatDoor.AI
