/- The abstract interpreter: the machine; it is sound. -/
import Derived.Test.YtfcoffpmcmhieaaGreatDoorA4
import Derived.RangeFuncRecord
set_option linter.unusedVariables false
set_option linter.unusedSimpArgs false
namespace Go.Proofs.YtfcoffpmcmhieaaGreatDoor.AI
variable {P : Program}

/-! ### Frames -/
def DrR (P : Program) (ρ : Ren) (m nx n : Nat) (r : R) (tmps : Array Value) (all : Array Oper) (gs : List Gap) (asg : List (Tmp × AV)) (mks : List (Tmp × Nat)) (is : List Nat) (W : Nat → Prop) : Prop :=
  ∃ gl g, gapsOf P all = some gl ∧ gs = gl.drop g ∧ J P all g g is ρ m nx n r tmps asg mks W ∧ Chd P all g is ∧ (gs = [] → is = [])

def isDr : AItem → Bool
  | .dr .. | .drw .. => true
  | _ => false

/-- What is left, with the registers. -/
def HeadR (P : Program) (ρ : Ren) (m nx n : Nat) (r : R) (tmps : Array Value) (todo : List AItem) (its : List Item) : Prop :=
  match todo with
  | .dr all gs asg mks :: k => ∃ is its', its = .inRegion all is :: its' ∧ DrR P ρ m nx n r tmps all gs asg mks is (fun _ => False) ∧ KR ρ k its'
  | .drw all o gs asg mks :: k => ∃ c is its', its = .inRegion all (c :: is) :: its' ∧ all[c]? = some o ∧ effOp P o = true ∧ DrR P ρ m nx n r tmps all gs asg mks is (fun t => o.dst = some t) ∧ KR ρ k its'
  | k => RR ρ n r tmps ∧ KR ρ k its

theorem Ren.ext_mono {ρ ρ' : Ren} {m n : Nat} (h : ρ.ext n ρ') (hm : m ≤ n) : ρ.ext m ρ' := ⟨h.1, fun i hi => h.2 i (by omega)⟩

theorem DrR.mono {ρ ρ' : Ren} {m nx nx' n : Nat} {r : R} {tmps : Array Value} {all : Array Oper} {gs : List Gap} {asg : List (Tmp × AV)} {mks : List (Tmp × Nat)} {is : List Nat} {W : Nat → Prop}
    (h : DrR P ρ m nx n r tmps all gs asg mks is W) (he : ρ.ext nx ρ') (hn : nx ≤ nx') : DrR P ρ' m nx' n r tmps all gs asg mks is W := by
  obtain ⟨gl, g, h1, h2, h3, h4, h5⟩ := h
  exact ⟨gl, g, h1, h2, h3.mono he hn, h4, h5⟩

theorem HeadR.mono {ρ ρ' : Ren} {m nx nx' n : Nat} {r : R} {tmps : Array Value} {todo : List AItem} {its : List Item} (h : HeadR P ρ m nx n r tmps todo its) (he : ρ.ext nx ρ') (hn : nx ≤ nx') :
    HeadR P ρ' m nx' n r tmps todo its := by
  unfold HeadR at h ⊢
  split
  · obtain ⟨is, its', h1, h2, h3⟩ := h; exact ⟨is, its', h1, h2.mono he hn, h3.mono he.1⟩
  · obtain ⟨c, is, its', h1, h2, h3, h4, h5⟩ := h; exact ⟨c, is, its', h1, h2, h3, h4.mono he hn, h5.mono he.1⟩
  · rename_i h1 h2
    split at h
    · exact absurd rfl (h1 _ _ _ _ _)
    · exact absurd rfl (h2 _ _ _ _ _ _)
    · exact ⟨h.1.mono he.1, h.2.mono he.1⟩

theorem HeadR.plain {ρ : Ren} {m nx n : Nat} {r : R} {tmps : Array Value} {todo : List AItem} {its : List Item} (hr : RR ρ n r tmps) (hk : KR ρ todo its) : HeadR P ρ m nx n r tmps todo its := by
  unfold HeadR
  split
  · obtain ⟨x, l', _, h2, _⟩ := hk; exact h2.elim
  · obtain ⟨x, l', _, h2, _⟩ := hk; exact h2.elim
  · exact ⟨hr, hk⟩

structure CR (P : Program) (ρ : Ren) (m nx : Nat) (c : AF) (fr : Frame) : Prop where
  fn : fr.fn = c.fn
  kind : fr.kind = c.kind
  rnd : rndR ρ c.rnd fr.roundOf
  defs : DRs ρ c.defs fr.defers
  st : (c.ret = false ∧ fr.mode = .run ∧ HeadR P ρ m nx c.n c.r fr.tmps c.todo fr.todo) ∨ (c.ret = true ∧ fr.mode = .returning ∧ RR ρ c.n c.r fr.tmps ∧ c.rnd = none)

theorem CR.mono {ρ ρ' : Ren} {m nx nx' : Nat} {c : AF} {fr : Frame} (h : CR P ρ m nx c fr) (he : ρ.ext nx ρ') (hn : nx ≤ nx') : CR P ρ' m nx' c fr :=
  ⟨h.fn, h.kind, h.rnd.mono he.1, h.defs.mono he.1, h.st.imp (fun ⟨h1, h2, h3⟩ => ⟨h1, h2, h3.mono he hn⟩) (fun ⟨h1, h2, h3, h4⟩ => ⟨h1, h2, h3.mono he.1, h4⟩)⟩

def CRs (P : Program) (ρ : Ren) (m0 : Nat) : Nat → List AF → List Frame → Prop
  | nx, [], l => l = [] ∧ m0 ≤ nx
  | nx, c :: cs, l => ∃ m fr l', l = fr :: l' ∧ m ≤ nx ∧ 8 ≤ m ∧ CR P ρ m nx c fr ∧ CRs P ρ m0 m cs l'

theorem CRs.mono {ρ ρ' : Ren} {m0 : Nat} : ∀ {cs : List AF} {l : List Frame} {nx : Nat}, CRs P ρ m0 nx cs l → ρ.ext nx ρ' → CRs P ρ' m0 nx cs l
  | [], _, _, h, _ => h
  | _ :: _, _, _, ⟨m, fr, l', h1, h2, h3, h4, h5⟩, he => ⟨m, fr, l', h1, h2, h3, h4.mono he (Nat.le_refl _), h5.mono (Ren.ext_mono he h2)⟩

theorem CRs.m0_le {ρ : Ren} {m0 : Nat} : ∀ {cs : List AF} {l : List Frame} {nx : Nat}, CRs P ρ m0 nx cs l → m0 ≤ nx
  | [], _, _, h => h.2
  | _ :: _, _, _, ⟨_, _, _, _, h2, _, _, h5⟩ => Nat.le_trans h5.m0_le h2

/-- The function at the bottom. -/
def botFn (f : FuncId) : List AF → FuncId
  | [] => f
  | c :: cs => botFn c.fn cs

/-- How a run ends. -/
def Fin (P : Program) (E : Nat → Option Obj) (wz : World) (ρ0 : Ren) (m0 : Nat) (f0 : FuncId) (base : List Frame) (post : AV → H → Bool) (M : Machine) : Prop :=
  ∃ v cv h' nx' ρ' w' fr, post v h' = true ∧ Steps P M (lone fr base w') ∧ fr.fn = f0 ∧ fr.leaving P w' (.returned cv) ∧ VR ρ' v cv ∧ HS ρ' h' nx' w'.heap E ∧ ρ0.ext m0 ρ' ∧ m0 ≤ nx' ∧ SO wz w'

theorem Fin.of_steps {E : Nat → Option Obj} {wz : World} {ρ0 : Ren} {m0 : Nat} {f0 : FuncId} {base : List Frame} {post : AV → H → Bool} {M M' : Machine} (hs : Steps P M M') (h : Fin P E wz ρ0 m0 f0 base post M') : Fin P E wz ρ0 m0 f0 base post M := by
  obtain ⟨v, cv, h', nx', ρ', w', fr, h1, h2, h3⟩ := h
  exact ⟨v, cv, h', nx', ρ', w', fr, h1, Steps.trans hs h2, h3⟩
theorem Fin.of_step {E : Nat → Option Obj} {wz : World} {ρ0 : Ren} {m0 : Nat} {f0 : FuncId} {base : List Frame} {post : AV → H → Bool} {M M' : Machine} (hs : step P M = .next M') (h : Fin P E wz ρ0 m0 f0 base post M') : Fin P E wz ρ0 m0 f0 base post M :=
  h.of_steps (.one hs)

/-- What is common to the frame that runs, however far it is. -/
structure Base (P : Program) (E : Nat → Option Obj) (wz : World) (ρ0 : Ren) (m0 : Nat) (f0 : FuncId) (ρ : Ren) (m : Nat) (x : FX) (cs : List AF) (h : H) (nx : Nat) (b : Frame) (defers : List Deferred) (callers : List Frame) (w : World) : Prop where
  fn : b.fn = x.fn
  kind : b.kind = x.kind
  rnd : rndR ρ x.rnd b.roundOf
  defs : DRs ρ x.defs defers
  crs : CRs P ρ m0 m cs callers
  hs : HS ρ h nx w.heap E
  m8 : 8 ≤ m
  mnx : m ≤ nx
  bot : botFn x.fn cs = f0
  r0 : ρ0.ext m0 ρ
  so : SO wz w

/-- The rest of a run is sound. -/
structure Good (P : Program) (E : Nat → Option Obj) (wz : World) (ρ0 : Ren) (m0 : Nat) (f0 : FuncId) (base : List Frame) (post : AV → H → Bool) (go : Go) : Prop where
  run : ∀ {todo : List AItem} {r : R} {x : FX} {cs : List AF} {h : H} {nx : Nat}, go todo r x cs h nx = true → ∀ {ρ : Ren} {m : Nat} {b : Frame} {a : Act} {its : List Item} {callers : List Frame} {w : World},
    Base P E wz ρ0 m0 f0 ρ m x cs h nx b a.defers callers w → HeadR P ρ m nx x.n r a.tmps todo its → Fin P E wz ρ0 m0 f0 base post (lone (b.atR a its) (callers ++ base) w)
  ret : ∀ {r : R} {x : FX} {cs : List AF} {h : H} {nx : Nat}, go [] r x cs h nx = true → ∀ {ρ : Ren} {m : Nat} {fr : Frame} {callers : List Frame} {w : World},
    Base P E wz ρ0 m0 f0 ρ m x cs h nx fr fr.defers callers w → fr.mode = .returning → x.rnd = none → RR ρ x.n r fr.tmps → Fin P E wz ρ0 m0 f0 base post (lone fr (callers ++ base) w)

theorem atR_self {fr : Frame} (hm : fr.mode = .run) : fr.atR ⟨fr.tmps, fr.defers⟩ fr.todo = fr := by
  cases fr
  simp only at hm
  subst hm
  rfl

/-! ### Putting a value where it belongs -/
noncomputable def putA (r : R) (dst : Option Tmp) (v : AV) : R := match dst with | some d => r.set d v | none => r

theorem putDst_true {dst : Option Tmp} {v : AV} {rest : List AItem} {r : R} {x : FX} {cs : List AF} {h : H} {nx : Nat} {go : Go} (hk : putDst dst v rest r x cs h nx go = true) :
    go rest (putA r dst v) x cs h nx = true ∧ ∀ d : Nat, dst = some d → d < x.n := by
  cases dst with
  | none => exact ⟨hk, fun d h => by cases h⟩
  | some d =>
    obtain ⟨h1, h2⟩ := onTrue_true (show onTrue (Nat.blt d x.n) (r.setK d v (goR go rest x cs h nx)) = true from hk)
    rw [R.setK_eq] at h2
    exact ⟨h2, fun d' e => by cases e; simpa [Nat.blt_eq] using h1⟩

theorem RR.put {ρ : Ren} {n : Nat} {r : R} {a : Act} (hr : RR ρ n r a.tmps) {dst : Option Tmp} (hd : ∀ d : Nat, dst = some d → d < n) {v : AV} {cv : Value} (hv : VR ρ v cv) : RR ρ n (putA r dst v) (a.put dst cv).tmps := by
  cases dst with
  | none => exact hr
  | some d => exact hr.set (hd d rfl) hv

theorem put_defers (a : Act) (dst : Option Tmp) (v : Value) : (a.put dst v).defers = a.defers := by cases dst <;> rfl

end Go.Proofs.YtfcoffpmcmhieaaGreatDoor.AI
namespace Go.Proofs.YtfcoffpmcmhieaaGreatDoor.AI
variable {P : Program}

theorem VRs.reverse {ρ : Ren} : ∀ {l : List AV} {vs : List Value}, VRs ρ l vs → VRs ρ l.reverse vs.reverse
  | [], _, h => by rw [VRs_nil] at h; subst h; exact VRs_nil.2 rfl
  | a :: l, _, h => by
    obtain ⟨v, r, rfl, h1, h2⟩ := VRs_cons.1 h
    rw [List.reverse_cons, List.reverse_cons]
    exact h2.reverse.append (VRs_cons_cons.2 ⟨h1, VRs_nil.2 rfl⟩)

section
variable {ρ : Ren} {h : H} {nx : Nat} {w : World} {E : Nat → Option Obj} {n : Nat} {r : R} {tmps : Array Value}

theorem resultsL (hs : HS ρ h nx w.heap E) (hr : RR ρ n r tmps) {k : AV → Bool} : ∀ (l : List ResultVar) (acc : List AV) (accv : List Value), VRs ρ acc accv → resultsA P h r l acc k = true →
    ∃ vs acc', (l.mapM fun (x : ResultVar) => (match x with | .tmp t => pure (tmps.getD t undef) | .cell a t => do loadVar t (← asAddr (tmps.getD a undef)) : Sem Value)).run P w = .ok vs w ∧ VRs ρ acc' (vs.reverse ++ accv) ∧
      (match acc' with | [v] => k v | l => k (.tup l.reverse)) = true
  | [], acc, accv, ha, hk => ⟨[], acc, rfl, ha, hk⟩
  | .tmp t :: l, acc, accv, ha, hk => by
    obtain ⟨vs, acc', h1, h2, h3⟩ := resultsL hs hr l (r.get t :: acc) (tmps.getD t undef :: accv) (VRs_cons_cons.2 ⟨hr.val t, ha⟩) hk
    refine ⟨tmps.getD t undef :: vs, acc', ?_, by simpa using h2, h3⟩
    rw [List.mapM_cons]
    simp only [Sem.run_bind, Sem.run_pure, Result.andThen_ok, h1]
  | .cell a t :: l, acc, accv, ha, hk => by
    obtain ⟨b, o, hb, hk⟩ := AV.onPtr_true (show (r.get a).onPtr _ = true from hk)
    have hv := hr.val a
    rw [hb] at hv
    simp only [VR] at hv
    obtain ⟨L, hL, hv⟩ := hv
    obtain ⟨v, cv, g1, g2, g3⟩ := loadK_ok (P := P) hs hL hk
    obtain ⟨vs, acc', h1, h2, h3⟩ := resultsL hs hr l (v :: acc) (cv :: accv) (VRs_cons_cons.2 ⟨g3, ha⟩) g1
    refine ⟨cv :: vs, acc', ?_, by simpa using h2, h3⟩
    rw [List.mapM_cons]
    have hrun : (do loadVar t (← asAddr (tmps.getD a undef)) : Sem Value).run P w = .ok cv w := by
      rw [hv]
      simp only [asAddr, Sem.run_bind, Sem.run_pure, Result.andThen_ok]
      exact g2
    simp only [Sem.run_bind, hrun, Sem.run_pure, Result.andThen_ok, h1]

theorem resultsA_ok (hs : HS ρ h nx w.heap E) (hr : RR ρ n r tmps) {fn : Func} {k : AV → Bool} (hk : resultsA P h r fn.results.toList [] k = true) :
    ∃ v cv, k v = true ∧ (results fn tmps).run P w = .ok cv w ∧ VR ρ v cv := by
  obtain ⟨vs, acc', h1, h2, h3⟩ := resultsL (P := P) hs hr fn.results.toList [] [] (VRs_nil.2 rfl) hk
  rw [List.append_nil] at h2
  have hrun : (fn.results.mapM fun (x : ResultVar) => (match x with | .tmp t => pure (tmps.getD t undef) | .cell a t => do loadVar t (← asAddr (tmps.getD a undef)) : Sem Value)).run P w = .ok vs.toArray w := by
    rw [Array.mapM_eq_mapM_toList]
    rw [← bind_pure_comp, Sem.run_bind, h1]
    rfl
  have key : results fn tmps = (do
      let vs ← fn.results.mapM fun (x : ResultVar) => (match x with | .tmp t => pure (tmps.getD t undef) | .cell a t => do loadVar t (← asAddr (tmps.getD a undef)) : Sem Value)
      pure (if h : vs.size = 1 then vs[0] else .tuple vs)) := rfl
  split at h3
  · rename_i v
    obtain ⟨cv, q, e, g1, g2⟩ := VRs_cons.1 h2
    rw [VRs_nil] at g2
    subst g2
    have : vs = [cv] := by
      have := congrArg List.reverse e
      simpa using this
    subst this
    refine ⟨v, cv, h3, ?_, g1⟩
    rw [key]
    simp only [Sem.run_bind, hrun, Result.andThen_ok]
    simp
  · rename_i hne
    have hl := h2.length
    have hsz : vs.length ≠ 1 := fun e => by
      have : acc'.length = 1 := by rw [← hl, List.length_reverse]; exact e
      obtain ⟨v, hv⟩ := List.length_eq_one_iff.1 this
      exact hne v hv
    refine ⟨_, .tuple vs.toArray, h3, ?_, ?_⟩
    · rw [key]
      simp only [Sem.run_bind, hrun, Result.andThen_ok]
      simp [hsz]
    · simp only [VR]
      have := h2.reverse
      rw [List.reverse_reverse] at this
      exact ⟨_, rfl, this⟩
end

theorem regsK_true {k : R → Bool} : ∀ {args : List AV} {i : Nat} {r : R}, regsK args i r k = true → i + args.length ≤ 448 → ∃ r', k r' = true ∧ ∀ t : Nat, r'.get t = if i ≤ t ∧ t < i + args.length then (args[t - i]?).getD .top else r.get t
  | [], i, r, hk, _ => ⟨r, hk, fun t => by simp; omega⟩
  | v :: l, i, r, hk, hl => by
    have hk : (r.setK i v fun r => regsK l (i + 1) r k) = true := hk
    rw [R.setK_eq] at hk
    simp only [List.length_cons] at hl
    obtain ⟨r', h1, h2⟩ := regsK_true hk (by omega)
    refine ⟨r', h1, fun t => ?_⟩
    rw [h2]
    by_cases e : t = i
    · subst e
      rw [if_neg (by omega), R.get_set_same, if_pos (by simp)]
      simp
    · by_cases c : i + 1 ≤ t ∧ t < i + 1 + l.length
      · rw [if_pos c, if_pos (by simp; omega)]
        obtain ⟨j, rfl⟩ : ∃ j, t = i + 1 + j := ⟨t - i - 1, by omega⟩
        rw [show i + 1 + j - (i + 1) = j by omega, show i + 1 + j - i = j + 1 by omega]
        simp
      · rw [if_neg c, R.get_set_ne _ _ (by omega) e, if_neg (by simp; omega)]

section
variable {E : Nat → Option Obj} {wz : World} {ρ0 : Ren} {m0 : Nat} {f0 : FuncId} {base : List Frame} {post : AV → H → Bool} {go : Go}

theorem finishA_ok (good : Good P E wz ρ0 m0 f0 base post go) {v : AV} {cv : Value} {todo : List AItem} {r : R} {x : FX} {cs : List AF} {h : H} {nx : Nat} (hk : finishA v todo r x cs h nx go = true)
    {ρ : Ren} {m : Nat} {fr : Frame} {callers : List Frame} {w : World} (bs : Base P E wz ρ0 m0 f0 ρ m x cs h nx fr fr.defers callers w) (hm : fr.mode = .run) (hh : HeadR P ρ m nx x.n r fr.tmps todo fr.todo) (hv : VR ρ v cv) :
    Fin P E wz ρ0 m0 f0 base post (lone (fr.finish cv) (callers ++ base) w) := by
  have hself := atR_self hm
  unfold finishA at hk
  split at hk
  · rename_i all o l k
    obtain ⟨hr, y, l', hy, ⟨is, rfl, his⟩, hkr⟩ := hh
    obtain ⟨i, is', rfl⟩ : ∃ i is', is = i :: is' := by
      cases is with
      | nil => cases his
      | cons i is' => exact ⟨i, is', rfl⟩
    obtain ⟨o', l'', e, hoi, his'⟩ := his
    cases e
    obtain ⟨hgo, hd⟩ := putDst_true hk
    have hfin := Frame.finish_atR fr ⟨fr.tmps, fr.defers⟩ all i is' l' cv
    rw [← hy, hself, hoi] at hfin
    simp only [Option.bind_some] at hfin
    rw [hfin]
    refine good.run hgo (ρ := ρ) (m := m) (a := (⟨fr.tmps, fr.defers⟩ : Act).put o.dst cv) ?_ ?_
    · rw [put_defers]; exact bs
    · exact HeadR.plain (RR.put (a := ⟨fr.tmps, fr.defers⟩) hr hd hv) ⟨_, _, rfl, ⟨is', rfl, his'⟩, hkr⟩
  · rename_i all o gs asg mks k
    obtain ⟨c, is, its', hy, hoc, he, ⟨gl, g, hg1, hg2, hj, hch⟩, hkr⟩ := hh
    obtain ⟨hgo, hd⟩ := putDst_true hk
    have hfin := Frame.finish_atR fr ⟨fr.tmps, fr.defers⟩ all c is its' cv
    rw [← hy, hself, hoc] at hfin
    simp only [Option.bind_some] at hfin
    rw [hfin]
    refine good.run hgo (ρ := ρ) (m := m) (a := (⟨fr.tmps, fr.defers⟩ : Act).put o.dst cv) ?_ ?_
    · rw [put_defers]; exact bs
    · obtain ⟨j1, j2⟩ := hj.done (gapsOf_stat hg1) hoc he hv
      refine ⟨is, its', rfl, ⟨gl, g, hg1, hg2, ?_, hch⟩, hkr⟩
      cases hdst : o.dst with
      | none => exact j2 hdst
      | some d => exact j1 d hdst
  · rename_i l k
    obtain ⟨hr, y, l', hy, ⟨L, hL, rfl⟩, hkr⟩ := hh
    have hfin : fr.finish cv = fr.atR ⟨fr.tmps, fr.defers⟩ (.endRangeFunc L.blk :: l') := by
      unfold Frame.finish
      rw [hy]
      simp only
      conv => lhs; rw [← hself]
      rfl
    rw [hfin]
    exact good.run hk (m := m) bs (HeadR.plain hr ⟨_, _, rfl, ⟨L, hL, rfl⟩, hkr⟩)
  · cases hk

theorem enterA_ok (good : Good P E wz ρ0 m0 f0 base post go) {f : FuncId} {args : List AV} {kind : CallKind} {cs : List AF} {h : H} {nx : Nat} (hk : enterA P f args kind cs h nx go = true)
    {ρ : Ren} {callers : List Frame} {w : World} {cargs : Array Value} (ha : VRs ρ args cargs.toList) (hc : CRs P ρ m0 nx cs callers) (hs : HS ρ h nx w.heap E) (hb : botFn f cs = f0) (hr0 : ρ0.ext m0 ρ) (hso : SO wz w) :
    Fin P E wz ρ0 m0 f0 base post (lone (Frame.enter P f cargs kind) (callers ++ base) w) := by
  obtain ⟨fn, hf, hk⟩ := onSome_true (show onSome (P.funcs[f]?) _ = true from hk)
  obtain ⟨body, hbody, hk⟩ := onSome_true hk
  obtain ⟨hlim, hk⟩ := onTrue_true hk
  simp only [Bool.and_eq_true, decide_eq_true_eq] at hlim
  obtain ⟨r, hgo, hreg⟩ := regsK_true hk (by omega)
  have hlen := ha.length
  rw [Array.length_toList] at hlen
  let b : Frame := { (default : Frame) with fn := f, kind := kind }
  let a : Act := { tmps := cargs ++ Array.replicate (fn.ntmps - cargs.size) undef, defers := [] }
  have henter : Frame.enter P f cargs kind = b.atR a [.code body] := by
    simp [Frame.enter, Frame.atR, hf, hbody, b, a]
    rfl
  rw [henter]
  refine good.run hgo (m := nx) (a := a) ⟨rfl, rfl, rfl, rfl, hc, hs, hs.nx_ge, Nat.le_refl _, hb, hr0, hso⟩ (HeadR.plain ⟨?_, by show max args.length fn.ntmps ≤ 448; omega, fun t => ?_⟩ ⟨_, _, rfl, rfl, rfl⟩)
  · show (cargs ++ Array.replicate (fn.ntmps - cargs.size) undef).size = max args.length fn.ntmps
    simp; omega
  · rw [hreg t]
    split
    · rename_i ht
      have hlt : t < args.length := by omega
      rw [Nat.sub_zero, List.getElem?_eq_getElem hlt]
      obtain ⟨v, hv, hvr⟩ := ha.get t args[t] (List.getElem?_eq_getElem hlt)
      have : a.tmps.getD t undef = v := by
        show (cargs ++ Array.replicate (fn.ntmps - cargs.size) undef).getD t undef = v
        rw [Array.getElem?_toList] at hv
        rw [Array.getD_eq_getD_getElem?, Array.getElem?_append_left (by omega), hv]
        rfl
      rw [this]
      exact hvr
    · rw [R.get_empty]; simp only [VR]

theorem leaveTo_ok (good : Good P E wz ρ0 m0 f0 base post go) {x : FX} {cs : List AF} {h : H} {nx : Nat} {v : AV} (hk : leaveTo P post x cs h nx go v = true)
    {ρ : Ren} {m : Nat} {fr : Frame} {callers : List Frame} {w : World} (bs : Base P E wz ρ0 m0 f0 ρ m x cs h nx fr fr.defers callers w) (hm : fr.mode = .returning) (hd : fr.defers = [])
    {fn : Func} (hf : P.funcs[fr.fn]? = some fn) {cv : Value} (hr : (results fn fr.tmps).run P w = .ok cv w) (hv : VR ρ v cv) : Fin P E wz ρ0 m0 f0 base post (lone fr (callers ++ base) w) := by
  have hc := bs.crs
  cases cs with
  | nil =>
    have : (match x.kind with | .normal => post v h | _ => false) = true := hk
    split at this
    · rename_i hkind
      obtain ⟨rfl, hmn⟩ := hc
      exact ⟨v, cv, h, nx, ρ, w, fr, this, Steps.refl P _, by rw [bs.fn]; exact bs.bot, ⟨hm, hd, by rw [bs.kind]; exact hkind, fn, hf, hr⟩, hv, bs.hs, bs.r0, by have := bs.mnx; omega, bs.so⟩
    · cases this
  | cons c cs =>
    obtain ⟨mc, fc, l', rfl, hmc, h8, hcr, hcs⟩ := hc
    have hk : (match x.kind with
      | .normal => onTrue (!c.ret) (finishA v c.todo c.r ⟨c.fn, c.n, c.defs, c.kind, c.rnd⟩ cs h nx go)
      | .deferred => onTrue c.ret (go [] c.r ⟨c.fn, c.n, c.defs, c.kind, c.rnd⟩ cs h nx)
      | _ => false) = true := hk
    have hbase : Base P E wz ρ0 m0 f0 ρ mc ⟨c.fn, c.n, c.defs, c.kind, c.rnd⟩ cs h nx fc fc.defers l' w :=
      ⟨hcr.fn, hcr.kind, hcr.rnd, hcr.defs, hcs, bs.hs, h8, Nat.le_trans hmc bs.mnx, bs.bot, bs.r0, bs.so⟩
    split at hk
    · rename_i hkind
      obtain ⟨hret, hk⟩ := onTrue_true hk
      have hret : c.ret = false := by simpa using hret
      rcases hcr.st with ⟨_, hmode, hh⟩ | ⟨h1, _⟩
      · refine Fin.of_step (step_leave_returned ⟨hm, hd, by rw [bs.kind]; exact hkind, fn, hf, hr⟩) ?_
        exact finishA_ok good hk hbase hmode (hh.mono (Ren.ext_refl _ _) bs.mnx) hv
      · rw [hret] at h1; cases h1
    · rename_i hkind
      obtain ⟨hret, hk⟩ := onTrue_true hk
      rcases hcr.st with ⟨h1, _⟩ | ⟨_, hmode, hrr, hrnd⟩
      · rw [hret] at h1; cases h1
      · refine Fin.of_step (M' := lone fc (l' ++ base) w) (step_lone_go ?_) (good.ret hk hbase hmode hrnd hrr)
        have hkd : fr.kind = .deferred := by rw [bs.kind]; exact hkind
        simp [stepG, unwind, doReturn, hm, hd, hkd, hf, Sem.runT_eq, hr, hmode]
    · cases hk

theorem unwindA_ok (good : Good P E wz ρ0 m0 f0 base post go) (hn : NoCount P) {r : R} {x : FX} {cs : List AF} {nx : Nat} : ∀ (ds : List ADef) {h : H}, unwindA P post r x cs nx go ds h = true →
    ∀ {ρ : Ren} {m : Nat} {fr : Frame} {callers : List Frame} {w : World}, Base P E wz ρ0 m0 f0 ρ m { x with defs := ds } cs h nx fr fr.defers callers w → fr.mode = .returning → x.rnd = none → RR ρ x.n r fr.tmps →
    Fin P E wz ρ0 m0 f0 base post (lone fr (callers ++ base) w)
  | [], h, hk, ρ, m, fr, callers, w, bs, hm, hrnd, hr => by
    obtain ⟨fn, hf, hk⟩ := onSome_true (show onSome (P.funcs[x.fn]?) _ = true from hk)
    have hd : fr.defers = [] := bs.defs
    obtain ⟨v, cv, h1, h2, h3⟩ := resultsA_ok bs.hs hr hk
    exact leaveTo_ok good (x := { x with defs := [] }) h1 bs hm hd (by rw [bs.fn]; exact hf) h2 h3
  | .collected b :: ds, h, hk, ρ, m, fr, callers, w, bs, hm, hrnd, hr => by
    have hk : (match h.get b with | .defd false => h.setK b .dead (unwindA P post r x cs nx go ds) | _ => false) = true := hk
    split at hk
    · rename_i hb
      rw [H.setK_eq] at hk
      obtain ⟨d, l', hd, ⟨L, hL, rfl⟩, hds⟩ := bs.defs
      obtain ⟨hB, hlt⟩ := bs.hs.live b L hL (by rw [hb]; simp)
      rw [hb] at hB
      have hB : w.heap[L.blk]? = some (.deferred (some [])) := hB
      have hs' : HS ρ (h.set b .dead) nx (w.putObj L.blk (.deferred none)).heap E :=
        bs.hs.turn (by rw [hb]; simp) hL (World.putObj_size) (fun j hj => World.putObj_heap_other hj) (fun h => absurd rfl h) (fun j m ver left cur Lj l v _ _ _ hb => by cases hb)
      refine Fin.of_step (M' := lone { fr with defers := l' } (callers ++ base) (w.putObj L.blk (.deferred none))) (step_lone_go ?_) ?_
      · simp [stepG, unwind, hm, hd, Sem.runT_eq, run_takeDeferred hB]
      · exact unwindA_ok good hn ds hk (m := m) (fr := { fr with defers := l' }) ⟨bs.fn, bs.kind, bs.rnd, hds, bs.crs, hs', bs.m8, bs.mnx, bs.bot, bs.r0, bs.so.trans (SO.other (b := L.blk) (by rw [hB]; intro c t fr h; cases h) (fun j hj => World.putObj_heap_other hj) rfl rfl)⟩ hm hrnd hr
    · cases hk
  | .call f args :: ds, h, hk, ρ, m, fr, callers, w, bs, hm, hrnd, hr => by
    have hk : enterA P f args .deferred ({ fn := x.fn, n := x.n, r, todo := [], defs := ds, ret := true, kind := x.kind, rnd := x.rnd } :: cs) h nx go = true := hk
    obtain ⟨d, l', hd, ⟨as, caps, rfl, hvr⟩, hds⟩ := bs.defs
    obtain ⟨fn, hf, hk2⟩ := onSome_true (show onSome (P.funcs[f]?) _ = true from hk)
    obtain ⟨body, hbody, _⟩ := onSome_true hk2
    have hcall := run_callFunc (w := w) (cargs := as ++ caps) hn hf hbody
    refine Fin.of_step (M' := lone (Frame.enter P f (as ++ caps) .deferred) (({ fr with defers := l' } : Frame) :: (callers ++ base)) w) (step_lone_go ?_) ?_
    · simp [stepG, unwind, callDeferred, hm, hd, invoke, Sem.runT_eq, hcall]
    · refine enterA_ok good hk (callers := ({ fr with defers := l' } : Frame) :: callers) hvr ?_ bs.hs bs.bot bs.r0 bs.so
      exact ⟨m, _, _, rfl, bs.mnx, bs.m8, ⟨bs.fn, bs.kind, bs.rnd, hds, .inr ⟨rfl, hm, hr, hrnd⟩⟩, bs.crs⟩
end

end Go.Proofs.YtfcoffpmcmhieaaGreatDoor.AI
namespace Go.Proofs.YtfcoffpmcmhieaaGreatDoor.AI
variable {P : Program}

/-- What answers calls at once is right. -/
def ExtOK (P : Program) (X : Ext) : Prop := ∀ (f : FuncId) (e : ExtF), X f = some e → ∀ {args : List AV} {h : H} {nx : Nat} {k : AV → H → Nat → Bool} {fb : Unit → Bool}, e args h nx k fb = true → fb () = true ∨
  ∀ {ρ : Ren} {cargs : Array Value} {w : World} {E : Nat → Option Obj}, VRs ρ args cargs.toList → HS ρ h nx w.heap E →
    (∃ fn body, P.funcs[f]? = some fn ∧ fn.body = some body) ∧ ∀ base : List Frame, ∃ v cv h' nx' ρ' w' fr, k v h' nx' = true ∧ Steps P (lone (Frame.enter P f cargs .normal) base w) (lone fr base w') ∧ fr.fn = f ∧
      fr.leaving P w' (.returned cv) ∧ VR ρ' v cv ∧ HS ρ' h' nx' w'.heap E ∧ ρ.ext nx ρ' ∧ nx ≤ nx' ∧ SO w w'

theorem setRegs_true {ρ : Ren} {n : Nat} {k : R → Bool} : ∀ {ts : List Tmp} {vs : List AV} {r : R} {cvs : List Value} {tmps : Array Value}, setRegs ts vs n r k = true → RR ρ n r tmps → VRs ρ vs cvs →
    ts.length = cvs.length ∧ ∃ r', k r' = true ∧ RR ρ n r' ((ts.zip cvs).foldl (fun tmps (p : Tmp × Value) => tmps.setIfInBounds p.1 p.2) tmps)
  | [], [], r, cvs, tmps, hk, hr, hv => by rw [VRs_nil] at hv; subst hv; exact ⟨rfl, r, hk, hr⟩
  | t :: ts, v :: vs, r, cvs, tmps, hk, hr, hv => by
    obtain ⟨cv, q, rfl, h1, h2⟩ := VRs_cons.1 hv
    obtain ⟨hlt, hk⟩ := onTrue_true (show onTrue (Nat.blt t n) (r.setK t v fun r => setRegs ts vs n r k) = true from hk)
    rw [R.setK_eq] at hk
    obtain ⟨g1, r', g2, g3⟩ := setRegs_true hk (hr.set (by simpa [Nat.blt_eq] using hlt) h1) h2
    exact ⟨by simp [g1], r', g2, g3⟩
  | [], _ :: _, _, _, _, hk, _, _ => by cases hk
  | _ :: _, [], _, _, _, hk, _, _ => by cases hk

theorem onLoop_true {h : H} {l : Nat} {k : LoopState → Option Code → FuncId → Nat → R → Array Tmp → Code → Code → Nat → Bool} (hk : onLoop h l k = true) :
    ∃ st pend fn n r ps a b d, h.get l = .loop st pend fn n r ps a b d ∧ k st pend fn n r ps a b d = true := by
  unfold onLoop at hk
  split at hk
  · rename_i e; exact ⟨_, _, _, _, _, _, _, _, _, e, hk⟩
  · cases hk

section
variable {E : Nat → Option Obj} {wz : World} {ρ0 : Ren} {m0 : Nat} {f0 : FuncId} {base : List Frame} {post : AV → H → Bool} {go : Go}

theorem Base.next {ρ ρ' : Ren} {m : Nat} {x : FX} {cs : List AF} {h h' : H} {nx nx' : Nat} {b : Frame} {ds : List Deferred} {callers : List Frame} {w w' : World} (bs : Base P E wz ρ0 m0 f0 ρ m x cs h nx b ds callers w)
    (he : ρ.ext m ρ') (hn : nx ≤ nx') (hs : HS ρ' h' nx' w'.heap E) (hso : SO w w') : Base P E wz ρ0 m0 f0 ρ' m x cs h' nx' b ds callers w' :=
  ⟨bs.fn, bs.kind, bs.rnd.mono he.1, bs.defs.mono he.1, bs.crs.mono he, hs, bs.m8, Nat.le_trans bs.mnx hn, bs.bot, Ren.ext_trans bs.r0 he bs.crs.m0_le, bs.so.trans hso⟩

theorem opsRun_ok (good : Good P E wz ρ0 m0 f0 base post go) (hn : NoCount P) {X : Ext} (hX : ExtOK P X) {o : Oper} {q : OK} {h : H} {nx : Nat} (hk : opsRun P X o q h nx go = true)
    {ρ : Ren} {m : Nat} {b : Frame} {a : Act} {callers : List Frame} {w : World} {all : Array Oper} {i : Nat} {is : List Nat} {its' : List Item} {Xs : Nat → Prop} (ho : all[i]? = some o) (hdst : q.dst = o.dst)
    (bs : Base P E wz ρ0 m0 f0 ρ m q.x q.cs h nx b a.defers callers w) (hr : RX ρ q.x.n q.r a.tmps Xs) (hreads : ∀ t : Nat, .tmp t ∈ o.op.operands → ¬ Xs t) (hw : Region.wanted o (yielded all a.tmps) = true)
    (hhere : HeadR P ρ m nx q.x.n q.r a.tmps q.here (.inRegion all (i :: is) :: its'))
    (hrest : ∀ {ρ' : Ren} {nx' : Nat} {v : AV} {cv : Value}, ρ.ext nx ρ' → nx ≤ nx' → VR ρ' v cv → (∀ d : Nat, o.dst = some d → d < q.x.n) →
      HeadR P ρ' m nx' q.x.n (putA q.r o.dst v) (a.put o.dst cv).tmps q.rest (.inRegion all is :: its')) :
    Fin P E wz ρ0 m0 f0 base post (lone (b.atR a (.inRegion all (i :: is) :: its')) (callers ++ base) w) := by
  have hk : exec o.op P q.r h nx (outK P X q h nx go) = true := hk
  have hfin := fun cv => Frame.finish_atR b a all i is its' cv
  simp only [ho, Option.bind_some] at hfin
  -- what comes behind a value
  have after : ∀ (v : AV) (cv : Value) (h' : H) (nx' : Nat) (ρ' : Ren) (w' : World), putDst q.dst v q.rest q.r q.x q.cs h' nx' go = true → VR ρ' v cv → HS ρ' h' nx' w'.heap E → ρ.ext nx ρ' → nx ≤ nx' → SO w w' →
      Fin P E wz ρ0 m0 f0 base post (lone (b.atR (a.put o.dst cv) (.inRegion all is :: its')) (callers ++ base) w') := by
    intro v cv h' nx' ρ' w' hk hv hs he hnx hso
    obtain ⟨hgo, hd⟩ := putDst_true hk
    rw [hdst] at hgo hd
    refine good.run hgo (ρ := ρ') (m := m) (a := a.put o.dst cv) ?_ (hrest he hnx hv hd)
    rw [put_defers]
    exact bs.next (Ren.ext_mono he bs.mnx) hnx hs hso
  by_cases hdef : ∃ c, o.op = .defer c
  · -- a deferred call
    obtain ⟨c, hc⟩ := hdef
    obtain ⟨r', hr1, hr2⟩ := hr.top
    rw [exec_same (r' := r') fun x hx t htx => hr2 t (hreads t (by rw [← htx]; exact hx)), hc] at hk
    obtain ⟨d, d', g1, g2, g3⟩ := opDefer_ok (P := P) (ty := o.type) (a := a) ⟨bs.hs, hr1⟩ hk
    have g1 : (match q.x.rnd with
      | none => putDst q.dst (.tup []) q.rest q.r { q.x with defs := d :: q.x.defs } q.cs h nx go
      | some _ => false) = true := g1
    split at g1
    · rename_i hrnd
      have hro : b.roundOf = none := by have := bs.rnd; rw [hrnd] at this; exact this
      obtain ⟨hgo, hd⟩ := putDst_true g1
      rw [hdst] at hgo hd
      refine Fin.of_step (M' := lone (b.atR (({ a with defers := d' :: a.defers } : Act).put o.dst undef) (.inRegion all is :: its')) (callers ++ base) w) (step_lone_go ?_) ?_
      · have hf2 := Frame.finish_atR b { a with defers := d' :: a.defers } all i is its' undef
        simp only [ho, Option.bind_some] at hf2
        rw [stepGR_op ho hw, hro, Oper.semAt_none]
        have hrun : (execOp a.eval o).run P w = .ok (.defer d') w := by
          unfold execOp
          rw [hc]
          simp [g3]
        simp only [stepG.apply, Sem.runT_eq, hrun, GStep.bare_after]
        exact congrArg (fun fr => GStep.go { frame := fr, callers := callers ++ base, status := .running, dying := none } w) hf2
      · refine good.run hgo (ρ := ρ) (m := m) (a := ({ a with defers := d' :: a.defers } : Act).put o.dst undef) ?_ ?_
        · rw [put_defers]
          exact ⟨bs.fn, bs.kind, bs.rnd, ⟨d', a.defers, rfl, g2, bs.defs⟩, bs.crs, bs.hs, bs.m8, bs.mnx, bs.bot, bs.r0, bs.so⟩
        · have hh := hrest (Ren.ext_refl nx ρ) (Nat.le_refl nx) (v := .tup []) (cv := undef) (by simp only [VR]; exact ⟨#[], rfl, VRs_nil.2 rfl⟩) hd
          have : (({ a with defers := d' :: a.defers } : Act).put o.dst undef).tmps = (a.put o.dst undef).tmps := by cases o.dst <;> rfl
          rw [this]
          exact hh
    · cases g1
  · have hdef : ∀ c, o.op ≠ .defer c := fun c e => hdef ⟨c, e⟩
    have act : ActRes P (execOp a.eval o) ρ nx w E (outK P X q h nx go) → Fin P E wz ρ0 m0 f0 base post (lone (b.atR a (.inRegion all (i :: is) :: its')) (callers ++ base) w) := by
      rintro ⟨v, h', nx', cv, nxt, w', ρ', g1, g2, g3, g4, g5, g8, g6, g7⟩
      exact Fin.of_step (step_value ho hdef hw g2 g3) (after v cv h' nx' ρ' w' g1 g6 g7 g4 g5 g8)
    rcases exec_okX bs.hs hr hreads hk with q1 | q1 | q1 | q1 | q1 | ⟨c, hc, _⟩ | q1
    · exact act (q1.act bs.hs)
    · exact act (q1.act bs.hs)
    · exact act q1
    · -- a call
      obtain ⟨f, args, cargs, g1, g2, g3⟩ := q1
      have g1 : (@Option.rec ExtF (fun _ => Bool) (enterA P f args .normal (frameOf q :: q.cs) h nx go) (fun e => e args h nx (extRet q go) fun _ => enterA P f args .normal (frameOf q :: q.cs) h nx go) (X f)) = true := g1
      have henter : ∀ (fn : Func) (body : Code), P.funcs[f]? = some fn → fn.body = some body →
          step P (lone (b.atR a (.inRegion all (i :: is) :: its')) (callers ++ base) w) = .next (lone (Frame.enter P f cargs .normal) (b.atR a (.inRegion all (i :: is) :: its') :: (callers ++ base)) w) := by
        intro fn body hf hb
        have hrun : (execOp a.eval o).run P w = .ok (.enter f cargs) w := g3.trans (run_callFunc hn hf hb)
        refine step_lone_go ?_
        rw [stepGR_op ho hw, Oper.semAt_eq _ _ _ hdef]
        simp [stepG.apply, Sem.runT_eq, hrun, Frame.atR]
      have entered : enterA P f args .normal (frameOf q :: q.cs) h nx go = true → Fin P E wz ρ0 m0 f0 base post (lone (b.atR a (.inRegion all (i :: is) :: its')) (callers ++ base) w) := by
        intro g1
        obtain ⟨fn, hf, hk2⟩ := onSome_true (show onSome (P.funcs[f]?) _ = true from g1)
        obtain ⟨body, hbody, _⟩ := onSome_true hk2
        refine Fin.of_step (henter fn body hf hbody) ?_
        refine enterA_ok good g1 (callers := b.atR a (.inRegion all (i :: is) :: its') :: callers) g2 ?_ bs.hs bs.bot bs.r0 bs.so
        exact ⟨m, _, _, rfl, bs.mnx, bs.m8, ⟨bs.fn, bs.kind, bs.rnd, bs.defs, .inl ⟨rfl, rfl, hhere⟩⟩, bs.crs⟩
      cases hXf : X f with
      | none =>
        rw [hXf] at g1
        exact entered g1
      | some e =>
        rw [hXf] at g1
        have g1 : e args h nx (extRet q go) (fun _ => enterA P f args .normal (frameOf q :: q.cs) h nx go) = true := g1
        rcases hX f e hXf g1 with g1 | hXe
        · exact entered g1
        obtain ⟨⟨fn, body, hf, hbody⟩, hcall⟩ := hXe g2 bs.hs
        obtain ⟨v, cv, h', nx', ρ', w', fr, c1, c2, c3, c4, c5, c6, c7, c8, c9⟩ := hcall (b.atR a (.inRegion all (i :: is) :: its') :: (callers ++ base))
        refine Fin.of_step (henter fn body hf hbody) (Fin.of_steps c2 (Fin.of_step (step_leave_returned c4) ?_))
        rw [hfin]
        exact after v cv h' nx' ρ' w' c1 c5 c6 c7 c8 c9
    · -- a round
      obtain ⟨l, args, cargs, L, g1, g2, g3, g4⟩ := q1
      have g1 : roundA l args (frameOf q) q.cs h nx go = true := g1
      obtain ⟨st, pend, fn, n', r', ps, ca, cb, d, hl, hk2⟩ := onLoop_true g1
      obtain ⟨hB, _⟩ := bs.hs.live l L g2 (by rw [hl]; simp)
      rw [hl] at hB
      obtain ⟨tmps, Ld, hLd, hrr, hobj⟩ := hB
      obtain ⟨hlen, r'', hgo, hrr'⟩ := setRegs_true hk2 hrr g3
      have hsz : cargs.size = ps.size := by simpa using hlen.symm
      have hfold : (ps.zip cargs).foldl (fun tmps (t, a) => tmps.setIfInBounds t a) tmps = (ps.toList.zip cargs.toList).foldl (fun tmps (p : Tmp × Value) => tmps.setIfInBounds p.1 p.2) tmps := by
        rw [← Array.foldl_toList, Array.toList_zip]
      have hrun : (execOp a.eval o).run P w = .ok (.round L.blk fn ((ps.zip cargs).foldl (fun tmps (t, a) => tmps.setIfInBounds t a) tmps) ca cb) w := g4.trans (run_yield hobj hsz)
      refine Fin.of_step (M' := lone (Frame.round L.blk fn ((ps.zip cargs).foldl (fun tmps (t, a) => tmps.setIfInBounds t a) tmps) ca cb .normal) (b.atR a (.inRegion all (i :: is) :: its') :: (callers ++ base)) w) (step_lone_go ?_) ?_
      · rw [stepGR_op ho hw, Oper.semAt_eq _ _ _ hdef]
        simp [stepG.apply, Sem.runT_eq, hrun]
      · rw [hfold]
        let b2 : Frame := { (default : Frame) with fn := fn, kind := .normal, roundOf := some L.blk }
        have hfr : Frame.round L.blk fn ((ps.toList.zip cargs.toList).foldl (fun tmps (p : Tmp × Value) => tmps.setIfInBounds p.1 p.2) tmps) ca cb .normal =
            b2.atR ⟨(ps.toList.zip cargs.toList).foldl (fun tmps (p : Tmp × Value) => tmps.setIfInBounds p.1 p.2) tmps, []⟩ [.code ca, .beginRound, .code cb] := rfl
        rw [hfr]
        refine good.run hgo (ρ := ρ) (m := nx) (callers := b.atR a (.inRegion all (i :: is) :: its') :: callers) ⟨rfl, rfl, ⟨L, g2, rfl⟩, rfl, ?_, bs.hs, bs.hs.nx_ge, Nat.le_refl _, bs.bot, bs.r0, bs.so⟩
          (HeadR.plain hrr' ⟨_, _, rfl, rfl, _, _, rfl, rfl, _, _, rfl, rfl, rfl⟩)
        exact ⟨m, _, _, rfl, bs.mnx, bs.m8, ⟨bs.fn, bs.kind, bs.rnd, bs.defs, .inl ⟨rfl, rfl, hhere⟩⟩, bs.crs⟩
    · exact absurd hc (hdef c)
    · -- recover
      obtain ⟨g1, g2⟩ := q1
      have g1 : (match q.x.rnd, q.x.kind, q.cs with
        | none, .deferred, c :: _ => onTrue c.ret (putDst q.dst .nilif q.rest q.r q.x q.cs h nx go)
        | _, _, _ => false) = true := g1
      split at g1
      · rename_i c cs' hrnd hkind hcs
        obtain ⟨hret, g1⟩ := onTrue_true g1
        have hc := bs.crs
        rw [hcs] at hc
        obtain ⟨mc, fc, l', hl, hmc, h8, hcr, _⟩ := hc
        have hmode : fc.mode = .returning := by
          rcases hcr.st with ⟨h1, _⟩ | ⟨_, h1, _⟩
          · rw [hret] at h1; cases h1
          · exact h1
        have hro : b.roundOf = none := by have := bs.rnd; rw [hrnd] at this; exact this
        have hkd : b.kind = .deferred := by rw [bs.kind]; exact hkind
        refine Fin.of_step (M' := lone (b.atR (a.put o.dst .nilIface) (.inRegion all is :: its')) (callers ++ base) w) (step_lone_go ?_) ?_
        · rw [stepGR_op ho hw, Oper.semAt_eq _ _ _ hdef, ← hfin .nilIface]
          have htry : tryRecover (b.atR a (.inRegion all (i :: is) :: its')) (callers ++ base) = none := by
            rw [hl]
            simp [tryRecover, Frame.atR, hkd, hmode]
          have hro' : (b.atR a (.inRegion all (i :: is) :: its')).roundOf = none := hro
          simp [stepG.apply, Sem.runT_eq, g2, hro', htry]
        · exact after .nilif .nilIface h nx ρ w g1 (by simp only [VR]) bs.hs (Ren.ext_refl nx ρ) (Nat.le_refl nx) (SO.refl w)
      · cases g1
end

end Go.Proofs.YtfcoffpmcmhieaaGreatDoor.AI
namespace Go.Proofs.YtfcoffpmcmhieaaGreatDoor.AI
variable {P : Program}

section
variable {E : Nat → Option Obj} {wz : World} {ρ0 : Ren} {m0 : Nat} {f0 : FuncId} {base : List Frame} {post : AV → H → Bool} {go : Go}
variable {ρ : Ren} {m : Nat} {b : Frame} {a : Act} {its : List Item} {callers : List Frame} {w : World} {r : R} {x : FX} {cs : List AF} {h : H} {nx : Nat} {k : List AItem}

theorem stepOps_ok (good : Good P E wz ρ0 m0 f0 base post go) (hn : NoCount P) {X : Ext} (hX : ExtOK P X) {all : Array Oper} {l : List Oper} (hk : stepOps P X all l k r x cs h nx go = true)
    (bs : Base P E wz ρ0 m0 f0 ρ m x cs h nx b a.defers callers w) (hh : HeadR P ρ m nx x.n r a.tmps (.ops all l :: k) its) : Fin P E wz ρ0 m0 f0 base post (lone (b.atR a its) (callers ++ base) w) := by
  obtain ⟨hr, y, its', rfl, ⟨is, rfl, his⟩, hkr⟩ := hh
  cases l with
  | nil =>
    cases is with
    | nil => exact Fin.of_step stepR_region_end (good.run (show go k r x cs h nx = true from hk) bs (HeadR.plain hr hkr))
    | cons i is => obtain ⟨_, _, e, _⟩ := his; cases e
  | cons o l =>
    obtain ⟨i, is', rfl⟩ : ∃ i is', is = i :: is' := by
      cases is with
      | nil => cases his
      | cons i is' => exact ⟨i, is', rfl⟩
    obtain ⟨o', l'', e, ho, his'⟩ := his
    cases e
    have hrx := RX.of_RR hr
    have hrun : ∀ (hk : opsRun P X o ⟨o.dst, .ops all (o :: l) :: k, .ops all l :: k, r, x, cs⟩ h nx go = true), Region.wanted o (yielded all a.tmps) = true →
        Fin P E wz ρ0 m0 f0 base post (lone (b.atR a (.inRegion all (i :: is') :: its')) (callers ++ base) w) := fun hk hw =>
      opsRun_ok good hn hX hk ho rfl bs hrx (fun _ _ h => h) hw (HeadR.plain hr ⟨_, _, rfl, ⟨_, rfl, o, l, rfl, ho, his'⟩, hkr⟩)
        fun he hnx hv hd => HeadR.plain (RR.put (hr.mono he.1) hd hv) ⟨_, _, rfl, ⟨_, rfl, his'⟩, hkr.mono he.1⟩
    have hk : opsCons2 P X all o ⟨o.dst, .ops all (o :: l) :: k, .ops all l :: k, r, x, cs⟩ h nx go = true := hk
    unfold opsCons2 at hk
    cases hg : o.guard with
    | none =>
      rw [hg] at hk
      exact hrun hk (by unfold Region.wanted; rw [hg])
    | some q =>
      rw [hg] at hk
      obtain ⟨wn, hw, hk⟩ := onSome_true (show onSome (wantedA all r o) _ = true from hk)
      have hwant := wanted_ok hrx (fun _ _ h => h) hw
      cases wn with
      | true => exact hrun hk hwant
      | false =>
        obtain ⟨hgo, hd⟩ := putDst_true (show putDst o.dst (.tup []) (.ops all l :: k) r x cs h nx go = true from hk)
        refine Fin.of_step (step_unwanted ho hwant) (good.run hgo (ρ := ρ) (m := m) (a := a.put o.dst undef) (by rw [put_defers]; exact bs) ?_)
        exact HeadR.plain (RR.put hr hd (by simp only [VR]; exact ⟨#[], rfl, VRs_nil.2 rfl⟩)) ⟨_, _, rfl, ⟨_, rfl, his'⟩, hkr⟩

theorem drop_cons {α : Type} {l : List α} {g : Nat} {y : α} {t : List α} (h : y :: t = l.drop g) : l[g]? = some y ∧ t = l.drop (g + 1) := by
  have hlt : g < l.length := by
    rcases Nat.lt_or_ge g l.length with h1 | h1
    · exact h1
    · rw [List.drop_eq_nil_of_le h1] at h; cases h
  rw [List.drop_eq_getElem_cons hlt] at h
  cases h
  exact ⟨List.getElem?_eq_getElem hlt, rfl⟩

theorem stepDr_ok (good : Good P E wz ρ0 m0 f0 base post go) (hn : NoCount P) {X : Ext} (hX : ExtOK P X) {all : Array Oper} {gs : List Gap} {asg : List (Tmp × AV)} {mks : List (Tmp × Nat)} (hk : stepDr P X all gs asg mks k r x cs h nx go = true)
    (bs : Base P E wz ρ0 m0 f0 ρ m x cs h nx b a.defers callers w) (hh : HeadR P ρ m nx x.n r a.tmps (.dr all gs asg mks :: k) its) : Fin P E wz ρ0 m0 f0 base post (lone (b.atR a its) (callers ++ base) w) := by
  obtain ⟨is, its', rfl, ⟨gl, g, hgl, hgs, hj, hch, hend⟩, hkr⟩ := hh
  have st := gapsOf_stat hgl
  cases gs with
  | nil =>
    obtain ⟨he, hk⟩ := onTrue_true (show onTrue asg.isEmpty (go k r x cs h nx) = true from hk)
    have hasg : asg = [] := by simpa using he
    subst hasg
    have := hend rfl
    subst this
    exact Fin.of_step stepR_region_end (good.run hk bs (HeadR.plain hj.finish hkr))
  | cons gap gs' =>
    obtain ⟨hgap, hgs'⟩ := drop_cons hgs
    obtain ⟨hgc, hfirst, hlive, hlay, heff⟩ := st.gap hgap
    have hcalm : ∀ o ∈ gap.first, calmOp o.op = true := fun o ho => by
      obtain ⟨i, hi, he, _⟩ := (hfirst o).1 ho
      exact (st.calm i o hi he).1
    obtain ⟨r1, h1, nx1, asgN, mksN, hk, f⟩ := firstK_true hj.rx.le hcalm (show firstK P all x.n gap.first r h nx asg mks _ = true from hk)
    obtain ⟨hmks, hk⟩ := onTrue_true hk
    obtain ⟨hk, hck⟩ := chkK_true hk
    have hj1 := hj.prep st hgap hch bs.mnx bs.hs f
    have hs1 := f.ghost ρ w.heap E bs.hs
    obtain ⟨is', ρ', tmps', w', hsteps, hso, hext, hj2, hch2, hs2, hhead⟩ := drain (b := b) (k := its') (cs := callers ++ base) (defs := a.defers) st hgap bs.m8 hs1.nx_le hck hmks is ρ a.tmps w hj1 hch hs1
    have bs2 : Base P E wz ρ0 m0 f0 ρ' m x cs h1 nx1 b a.defers callers w' := bs.next hext f.le hs2 hso
    have hkr2 := hkr.mono hext.1
    obtain ⟨r2, asg2, hk, hl1, hl2⟩ := layK_true hk fun o ho d hd => by
      obtain ⟨i, hi, _⟩ := (hlay o).1 ho
      have := hj.dn i o d hi hd
      have := hj.rx.le
      omega
    refine Fin.of_steps hsteps ?_
    cases is' with
    | nil =>
      have hno : (chainOf P all.toList)[g]? = none := by
        cases hc : (chainOf P all.toList)[g]? with
        | none => rfl
        | some c => have := (hch2 g c hc).2 (Nat.le_refl g); cases this
      rw [heff, hno] at hk
      have hk : go (.dr all gs' asg2 (mksN ++ mks) :: k) r2 x cs h1 nx1 = true := hk
      have hj3 := hj2.lay st hgap (fun i o ho he hl h => by cases h) hl1 hl2
      refine good.run hk (ρ := ρ') (m := m) (a := ⟨tmps', a.defers⟩) bs2 ⟨[], its', rfl, ⟨gl, g + 1, hgl, hgs', hj3, fun q c hc => ?_, fun _ => rfl⟩, hkr2⟩
      have := hch2 q c hc
      constructor
      · intro h; cases h
      · intro h; exact this.2 (by omega)
    | cons c rest =>
      obtain ⟨o, ho, he⟩ := hhead c rest rfl
      obtain ⟨kk, hkk⟩ := List.mem_iff_getElem?.1 ((mem_chain ho).2 he)
      have hge := (hch2 kk c hkk).1 (by simp)
      have hkg : kk = g := by
        rcases Nat.eq_or_lt_of_le hge with e | e
        · exact e.symm
        · exfalso
          have hlen := (List.getElem?_eq_some_iff.1 hkk).1
          have hc' : (chainOf P all.toList)[g]? = some (chainOf P all.toList)[g] := List.getElem?_eq_getElem (by omega)
          have := (hch2 g _ hc').2 (Nat.le_refl g)
          exact hj2.ord.2.1 _ (st.chain_bef hc' hkk e) this
      subst hkg
      have hlen := (List.getElem?_eq_some_iff.1 hkk).1
      have heff2 : gap.eff = some o := by rw [heff, hkk]; exact ho
      rw [heff2] at hk
      have hj3 := hj2.lay st hgap (fun i p hp hpe hl hmem => by
        have hb := lastI_at (i := i) (by rw [hl]; exact hkk)
        exact hj2.ord.2.1 i hb hmem) hl1 hl2
      have hreads := hj3.reads st ho
      have hjw := hj3.wait ho he
      have hchn := hch2.next st hkk hj2.ord.1
      have hne : gs' = [] → rest = [] := fun e => by
        rw [e] at hgs'
        have := congrArg List.length hgs'
        rw [List.length_drop, st.len] at this
        simp at this
        omega
      obtain ⟨wn, hw, hk⟩ := onSome_true (show onSome (wantedA all r2 o) _ = true from hk)
      have hwant := wanted_ok hj3.rx hreads hw
      cases wn with
      | true =>
        have hk : opsRun P X o ⟨o.dst, .drw all o gs' asg2 (mksN ++ mks) :: k, .dr all gs' asg2 (mksN ++ mks) :: k, r2, x, cs⟩ h1 nx1 go = true := hk
        refine opsRun_ok good hn hX hk (a := ⟨tmps', a.defers⟩) ho rfl bs2 hj3.rx (fun t ht => hreads t (ops_reads ht)) hwant ⟨c, rest, its', rfl, ho, he, ⟨gl, kk + 1, hgl, hgs', hjw, hchn, hne⟩, hkr2⟩ fun he' hnx hv hd => ?_
        obtain ⟨d1, d2⟩ := (hjw.mono he' hnx).done st ho he hv
        refine ⟨rest, its', rfl, ⟨gl, kk + 1, hgl, hgs', ?_, hchn, hne⟩, hkr2.mono he'.1⟩
        cases hdst : o.dst with
        | none => exact d2 hdst
        | some d => exact d1 d hdst
      | false =>
        obtain ⟨hgo, hd⟩ := putDst_true (show putDst o.dst (.tup []) (.dr all gs' asg2 (mksN ++ mks) :: k) r2 x cs h1 nx1 go = true from hk)
        refine Fin.of_step (step_unwanted (a := ⟨tmps', a.defers⟩) ho hwant) (good.run hgo (ρ := ρ') (m := m) (a := (⟨tmps', a.defers⟩ : Act).put o.dst undef) (by rw [put_defers]; exact bs2) ?_)
        obtain ⟨d1, d2⟩ := hjw.done st ho he (v := .tup []) (cv := undef) (by simp only [VR]; exact ⟨#[], rfl, VRs_nil.2 rfl⟩)
        refine ⟨rest, its', rfl, ⟨gl, kk + 1, hgl, hgs', ?_, hchn, hne⟩, hkr2⟩
        cases hdst : o.dst with
        | none => exact d2 hdst
        | some d => exact d1 d hdst

/-! ### Leaving -/
theorem leaveA_ok (good : Good P E wz ρ0 m0 f0 base post go) (hn : NoCount P) {jump : Option Code} (hk : leaveA P post jump r x cs h nx go = true) (bs : Base P E wz ρ0 m0 f0 ρ m x cs h nx b a.defers callers w) (hr : RR ρ x.n r a.tmps)
    (h1 : b.roundOf = none → jump = none ∨ jump = some .ret → step P (lone (b.atR a its) (callers ++ base) w) = .next (lone { b.atR a its with mode := .returning } (callers ++ base) w))
    (h2 : ∀ {l : Nat} {c : Frame} {cs' : List Frame} {v : Value} {w' : World}, b.roundOf = some l → b.kind = .normal → (Instr.endRound l jump).run P w = .ok v w' → step P (lone (b.atR a its) (c :: cs') w) = .next (lone (c.finish v) cs' w')) :
    Fin P E wz ρ0 m0 f0 base post (lone (b.atR a its) (callers ++ base) w) := by
  unfold leaveA at hk
  have hrnd := bs.rnd
  cases hx : x.rnd with
  | none =>
    rw [hx] at hk hrnd
    have hro : b.roundOf = none := hrnd
    have hj : jump = none ∨ jump = some .ret := by
      simp only at hk
      split at hk
      · exact .inl rfl
      · exact .inr rfl
      · cases hk
    have hk : unwindA P post r x cs nx go x.defs h = true := by
      rcases hj with rfl | rfl <;> exact hk
    refine Fin.of_step (h1 hro hj) ?_
    exact unwindA_ok good hn x.defs hk (ρ := ρ) (m := m) (fr := { b.atR a its with mode := .returning }) ⟨bs.fn, bs.kind, bs.rnd, bs.defs, bs.crs, bs.hs, bs.m8, bs.mnx, bs.bot, bs.r0, bs.so⟩ rfl hx hr
  | some l =>
    rw [hx] at hk hrnd
    obtain ⟨L, hL, hro⟩ := hrnd
    obtain ⟨st, pend, fn, n', r', ps, ca, cb, d, hl, hk⟩ := onLoop_true hk
    have hc := bs.crs
    cases cs with
    | nil => cases hk
    | cons c cs =>
      obtain ⟨mc, fc, l', rfl, hmc, h8, hcr, hcs⟩ := hc
      simp only at hk
      split at hk
      · rename_i hkind
        obtain ⟨hret, hk⟩ := onTrue_true hk
        have hret : c.ret = false := by simpa using hret
        rw [H.setK_eq] at hk
        obtain ⟨hB, hlt⟩ := bs.hs.live l L hL (by rw [hl]; simp)
        rw [hl] at hB
        obtain ⟨tmps, Ld, hLd, hrr, hobj⟩ := hB
        have hend := run_endRound (P := P) jump hobj
        refine Fin.of_step (h2 hro (by rw [bs.kind]; exact hkind) hend) ?_
        rcases hcr.st with ⟨_, hmode, hh⟩ | ⟨q1, _⟩
        · refine finishA_ok good hk (ρ := ρ) (m := mc) ⟨hcr.fn, hcr.kind, hcr.rnd, hcr.defs, hcs, ?_, h8, Nat.le_trans hmc bs.mnx, bs.bot, bs.r0, bs.so.trans (SO.other (b := L.blk) (by rw [hobj]; intro c t fr h; cases h) (fun j hj => World.putObj_heap_other hj) rfl rfl)⟩ hmode (hh.mono (Ren.ext_refl _ _) bs.mnx) (by simp only [VR])
          refine bs.hs.turn (by rw [hl]; simp) hL World.putObj_size (fun j hj => World.putObj_heap_other hj) (fun _ => ?_) (fun j m ver left cur Lj l v _ _ _ hb => by cases hb)
          exact ⟨tmps, Ld, hLd, hrr, World.putObj_heap_same hlt⟩
        · rw [hret] at q1; cases q1
      · cases hk

end

end Go.Proofs.YtfcoffpmcmhieaaGreatDoor.AI
namespace Go.Proofs.YtfcoffpmcmhieaaGreatDoor.AI
variable {P : Program}

section
variable {b : Frame} {a : Act} {k : List Item} {cs : List Frame} {w : World}

theorem stepR_scope {c : Code} : step P (lone (b.atR a (.code (.scope c) :: k)) cs w) = .next (lone (b.atR a (.code c :: .inScope c :: k)) cs w) :=
  step_lone_go (by simp [stepG, stepG.exec, Frame.atR])
theorem stepR_inScope {c : Code} : step P (lone (b.atR a (.inScope c :: k)) cs w) = .next (lone (b.atR a k) cs w) :=
  step_lone_go (by simp [stepG, stepG.exec, Frame.atR])
theorem stepR_endRF {l : Nat} {j : Option Code} {w' : World} (h : (Instr.endLoop l).run P w = .ok j w') :
    step P (lone (b.atR a (.endRangeFunc l :: k)) cs w) = .next (lone (b.atR a ((j.map Item.code).toList ++ k)) cs w') :=
  step_lone_go (by simp [stepG, stepG.exec, Frame.atR, Sem.runT_eq, h])
theorem stepR_rangeFunc {f : Operand} {ps : Array Tmp} {ca cb : Code} {l : Nat} {mark : List Deferred} {w' : World} {g : FuncId} {caps : Array Value}
    (h : (Instr.enterLoop b.fn a.tmps ps ca cb b.roundOf).run P w = .ok (l, mark) w') (hf : a.eval f = .func (.func g) #[] caps)
    (hc : (callFunc g (#[.func (.yield l) #[] #[]] ++ caps)).run P w' = .ok (.enter g (#[.func (.yield l) #[] #[]] ++ caps)) w') :
    step P (lone (b.atR a (.code (.rangeFunc f ps ca cb) :: k)) cs w) =
      .next (lone (Frame.enter P g (#[.func (.yield l) #[] #[]] ++ caps) .normal) (b.atR ⟨a.tmps, mark ++ a.defers⟩ (.inRangeFunc l :: k) :: cs) w') := by
  have he : (b.atR ⟨a.tmps, mark ++ a.defers⟩ (.inRangeFunc l :: k)).eval f = .func (.func g) #[] caps := by
    rw [Frame.eval_atR]
    have : (⟨a.tmps, mark ++ a.defers⟩ : Act).eval f = a.eval f := by cases f <;> rfl
    rw [this]; exact hf
  have hy : (b.atR ⟨a.tmps, mark ++ a.defers⟩ (.inRangeFunc l :: k)).eval (.const (.func (.yield l) #[] #[])) = .func (.yield l) #[] #[] := rfl
  refine step_lone_go ?_
  simp only [Frame.atR] at he hy
  simp [stepG, stepG.exec, Frame.atR, Sem.runT_eq, h, stepG.apply, resolve, he, hy, Deferred.ofValue, invoke, hc]
end

section
variable {E : Nat → Option Obj} {wz : World} {ρ0 : Ren} {m0 : Nat} {f0 : FuncId} {base : List Frame} {post : AV → H → Bool} {go : Go}
variable {ρ : Ren} {m : Nat} {b : Frame} {a : Act} {its its' : List Item} {callers : List Frame} {w w' : World} {mark : List Deferred} {r : R} {x : FX} {cs : List AF} {h : H} {nx : Nat} {k : List AItem}

theorem rangeStart_ok (good : Good P E wz ρ0 m0 f0 base post go) (hn : NoCount P) {f : AV} {fo : Operand} {ps : Array Tmp} {ca cb : Code} {d : Nat} {defs : List ADef} (hk : rangeStart P f ps ca cb k r x cs go d defs nx h = true)
    (bs : Base P E wz ρ0 m0 f0 ρ m { x with defs := defs } cs h nx b (mark ++ a.defers) callers w') (hr : RR ρ x.n r a.tmps) (hkr : KR ρ k its') (hf : VR ρ f (a.eval fo)) {Ld : Loc} (hLd : ρ d = some Ld)
    (hent : (Instr.enterLoop b.fn a.tmps ps ca cb b.roundOf).run P w = .ok (w'.heap.size, mark) (w'.alloc (.loop { state := .ready, pending := none, fn := b.fn, tmps := a.tmps, params := ps, assign := ca, body := cb, defers := Ld.blk }))) :
    Fin P E wz ρ0 m0 f0 base post (lone (b.atR a (.code (.rangeFunc fo ps ca cb) :: its')) (callers ++ base) w) := by
  obtain ⟨hlt, hk⟩ := onTrue_true (show onTrue (Nat.blt nx 3583) _ = true from hk)
  have hlt : nx < 3583 := by simpa [Nat.blt_eq] using hlt
  rw [H.setK_eq] at hk
  split at hk
  · rename_i g caps _
    rw [forceN_eq] at hk
    simp only [VR] at hf
    obtain ⟨cs', hfe, hcaps⟩ := hf
    obtain ⟨fn, hfn, hk2⟩ := onSome_true (show onSome (P.funcs[g]?) _ = true from hk)
    obtain ⟨body, hbody, _⟩ := onSome_true hk2
    let L : Loc := ⟨w'.heap.size, 0, 0⟩
    let lp : Loop := { state := .ready, pending := none, fn := b.fn, tmps := a.tmps, params := ps, assign := ca, body := cb, defers := Ld.blk }
    have hext := Ren.ext_put L bs.hs.fresh
    have hs2 : HS (ρ.put nx L) (h.set nx (.loop .ready none x.fn x.n r ps ca cb d)) (nx + 1) (w'.alloc (.loop lp)).heap E := by
      refine bs.hs.new hlt (o := .loop lp) (L := L) rfl fun _ => ?_
      refine ⟨a.tmps, Ld, hext.1 _ _ hLd, hr.mono hext.1, ?_⟩
      show (w'.heap.push (.loop lp))[w'.heap.size]? = _
      rw [show x.fn = b.fn from bs.fn.symm]
      simp [lp]
    have hcall := run_callFunc (w := w'.alloc (.loop lp)) (cargs := #[.func (.yield w'.heap.size) #[] #[]] ++ cs') hn hfn hbody
    refine Fin.of_step (stepR_rangeFunc hent hfe hcall) ?_
    refine enterA_ok good hk (ρ := ρ.put nx L) (callers := b.atR ⟨a.tmps, mark ++ a.defers⟩ (.inRangeFunc w'.heap.size :: its') :: callers) ?_ ?_ hs2 bs.bot
      (Ren.ext_trans bs.r0 (Ren.ext_mono hext bs.mnx) bs.crs.m0_le) (bs.so.trans (SO.push (o := .loop lp) rfl rfl rfl))
    · rw [Array.toList_append]
      exact VRs_cons_cons.2 ⟨by simp only [VR]; exact ⟨L, Ren.put_same _ _ _, rfl⟩, VRs.mono hext.1 _ hcaps⟩
    · refine ⟨m, _, _, rfl, Nat.le_succ_of_le bs.mnx, bs.m8, ⟨bs.fn, bs.kind, bs.rnd.mono hext.1, bs.defs.mono hext.1, .inl ⟨rfl, rfl, ?_⟩⟩, bs.crs.mono (Ren.ext_mono hext bs.mnx)⟩
      exact HeadR.plain (hr.mono hext.1) ⟨_, _, rfl, ⟨L, Ren.put_same _ _ _, rfl⟩, hkr.mono hext.1⟩
  · cases hk

theorem rangeFuncA_ok (good : Good P E wz ρ0 m0 f0 base post go) (hn : NoCount P) {fo : Operand} {ps : Array Tmp} {ca cb : Code} (hk : rangeFuncA P fo ps ca cb k r x cs h nx go = true)
    (bs : Base P E wz ρ0 m0 f0 ρ m x cs h nx b a.defers callers w) (hr : RR ρ x.n r a.tmps) (hkr : KR ρ k its') :
    Fin P E wz ρ0 m0 f0 base post (lone (b.atR a (.code (.rangeFunc fo ps ca cb) :: its')) (callers ++ base) w) := by
  have hf := ev_ok (n := x.n) (r := r) (a := a) ⟨bs.hs, hr⟩ fo
  unfold rangeFuncA at hk
  have hrnd := bs.rnd
  split at hk
  · rename_i l hx
    rw [hx] at hrnd
    obtain ⟨L, hL, hro⟩ := hrnd
    obtain ⟨st, pend, fn, n', r', ps', ca', cb', d, hl, hk⟩ := onLoop_true hk
    obtain ⟨hB, _⟩ := bs.hs.live l L hL (by rw [hl]; simp)
    rw [hl] at hB
    obtain ⟨tmps, Ld, hLd, hrr, hobj⟩ := hB
    refine rangeStart_ok good hn hk (mark := []) (w' := w) (fo := fo) (show Base P E wz ρ0 m0 f0 ρ m { x with defs := x.defs } cs h nx b ([] ++ a.defers) callers w from bs) hr hkr hf hLd ?_
    rw [hro]
    simp only [Instr.enterLoop, Sem.run_bind, run_getLoop hobj, Result.andThen_ok, Sem.run_pure, run_newObj_alloc]
  · rename_i hx
    rw [hx] at hrnd
    have hro : b.roundOf = none := hrnd
    obtain ⟨hlt, hk⟩ := onTrue_true hk
    have hlt : nx < 3583 := by simpa [Nat.blt_eq] using hlt
    rw [H.setK_eq, forceN_eq] at hk
    let L : Loc := ⟨w.heap.size, 0, 0⟩
    have hext := Ren.ext_put L bs.hs.fresh
    have hs2 : HS (ρ.put nx L) (h.set nx (.defd false)) (nx + 1) (w.alloc (.deferred (some []))).heap E := by
      refine bs.hs.new hlt (o := .deferred (some [])) (L := L) rfl fun _ => ?_
      show (w.heap.push (.deferred (some [])))[w.heap.size]? = _
      simp
    refine rangeStart_ok good hn hk (ρ := ρ.put nx L) (mark := [{ target := .collected w.heap.size, args := #[] }]) (w' := w.alloc (.deferred (some []))) (fo := fo) (m := m)
      ⟨bs.fn, bs.kind, bs.rnd.mono hext.1, ⟨_, _, rfl, ⟨L, Ren.put_same _ _ _, rfl⟩, bs.defs.mono hext.1⟩, bs.crs.mono (Ren.ext_mono hext bs.mnx), hs2, bs.m8, Nat.le_succ_of_le bs.mnx, bs.bot, Ren.ext_trans bs.r0 (Ren.ext_mono hext bs.mnx) bs.crs.m0_le, bs.so.trans (SO.push (o := .deferred (some [])) rfl rfl rfl)⟩
      (hr.mono hext.1) (hkr.mono hext.1) (VR.mono hext.1 _ hf) (Ld := L) (Ren.put_same _ _ _) ?_
    rw [hro, run_enterLoop_outer, World.size_alloc]

theorem stepCode_ok (good : Good P E wz ρ0 m0 f0 base post go) (hn : NoCount P) (hmix : P.follows .mixedOrders = true) {c : Code} (hk : stepCode c P post k r x cs h nx go = true)
    (bs : Base P E wz ρ0 m0 f0 ρ m x cs h nx b a.defers callers w) (hr : RR ρ x.n r a.tmps) (hkr : KR ρ k its') : Fin P E wz ρ0 m0 f0 base post (lone (b.atR a (.code c :: its')) (callers ++ base) w) := by
  cases c with
  | skip => exact Fin.of_step stepR_skip (good.run (show go k r x cs h nx = true from hk) bs (HeadR.plain hr hkr))
  | label l => exact Fin.of_step stepR_label (good.run (show go k r x cs h nx = true from hk) bs (HeadR.plain hr hkr))
  | region id ops draw =>
    cases draw with
    | false =>
      exact Fin.of_step stepR_region (good.run (show go (.ops ops ops.toList :: k) r x cs h nx = true from hk) bs (HeadR.plain hr ⟨_, _, rfl, ⟨_, rfl, OpsR_all ops⟩, hkr⟩))
    | true =>
      obtain ⟨hd, hk⟩ := onTrue_true (show onTrue (dstsOk x.n ops.toList) _ = true from hk)
      obtain ⟨gs, hgs, hk⟩ := onSome_true hk
      have st := gapsOf_stat hgs
      obtain ⟨ho, hm⟩ := schedule_order hmix st.back (w.tape w.drawn (.order b.fn id))
      obtain ⟨j, hch⟩ := J.start (P := P) (m := m) (nx := nx) ho hm hr hd
      refine Fin.of_step stepR_region_draw (good.run hk (ρ := ρ) (m := m) (w := { w with drawn := w.drawn + 1 }) ⟨bs.fn, bs.kind, bs.rnd, bs.defs, bs.crs, bs.hs, bs.m8, bs.mnx, bs.bot, bs.r0, bs.so.trans ⟨rfl, rfl, fun i c t fr hi => ⟨c, hi, rfl⟩⟩⟩
        ⟨_, its', rfl, ⟨gs, 0, hgs, rfl, j, hch, fun e => ?_⟩, hkr⟩)
      have := st.len
      rw [e] at this
      simp at this
  | seq c d => exact Fin.of_step stepR_seq (good.run (show go (.code c :: .code d :: k) r x cs h nx = true from hk) bs (HeadR.plain hr ⟨_, _, rfl, rfl, _, _, rfl, rfl, hkr⟩))
  | cond c x1 y1 =>
    obtain ⟨t, ht, hk⟩ := AV.onBool_true (show (ev h r c).onBool (cond2 x1 y1 k r x cs h nx go) = true from hk)
    have hc := ev_ok (n := x.n) (r := r) (a := a) ⟨bs.hs, hr⟩ c
    rw [ht] at hc
    simp only [VR] at hc
    refine Fin.of_step (stepR_cond hc) ?_
    have hk : go (.code (@Bool.rec (fun _ => Code) y1 x1 t) :: k) r x cs h nx = true := hk
    cases t with
    | true => exact good.run hk bs (HeadR.plain hr ⟨_, _, rfl, rfl, hkr⟩)
    | false => exact good.run hk bs (HeadR.plain hr ⟨_, _, rfl, rfl, hkr⟩)
  | block id c => exact Fin.of_step stepR_block (good.run (show go (.code c :: .inBlock id :: k) r x cs h nx = true from hk) bs (HeadR.plain hr ⟨_, _, rfl, rfl, _, _, rfl, rfl, hkr⟩))
  | loop c => exact Fin.of_step stepR_loop (good.run (show go (.code c :: .inLoop c :: k) r x cs h nx = true from hk) bs (HeadR.plain hr ⟨_, _, rfl, rfl, _, _, rfl, rfl, hkr⟩))
  | rangeFunc f ps ca cb => exact rangeFuncA_ok good hn hk bs hr hkr
  | exit id =>
    have hk : (match exitA id k with
      | some k => go k r x cs h nx
      | none => leaveA P post (some (.exit id)) r x cs h nx go) = true := hk
    obtain ⟨e1, e2⟩ := exitA_ok (id := id) hkr
    split at hk
    · rename_i k' he
      obtain ⟨l', h1, h2⟩ := e1 k' he
      exact Fin.of_step (stepR_exit h1) (good.run hk bs (HeadR.plain hr h2))
    · rename_i he
      have hx := e2 he
      exact leaveA_ok good hn hk bs hr (fun _ hj => by rcases hj with h | h <;> cases h) fun h1 h2 h3 => stepR_round_exit h1 h2 hx h3
  | scope c => exact Fin.of_step stepR_scope (good.run (show go (.code c :: .inScope c :: k) r x cs h nx = true from hk) bs (HeadR.plain hr ⟨_, _, rfl, rfl, _, _, rfl, rfl, hkr⟩))
  | goto id =>
    have hk : (match gotoA id k with
      | some k => go k r x cs h nx
      | none => leaveA P post (some (.goto id)) r x cs h nx go) = true := hk
    obtain ⟨e1, e2⟩ := gotoA_ok (id := id) hkr
    split at hk
    · rename_i k' he
      obtain ⟨l', h1, h2⟩ := e1 k' he
      exact Fin.of_step (stepR_goto h1) (good.run hk bs (HeadR.plain hr h2))
    · rename_i he
      have hx := e2 he
      exact leaveA_ok good hn hk bs hr (fun _ hj => by rcases hj with h | h <;> cases h) fun h1 h2 h3 => stepR_round_goto h1 h2 hx h3
  | ret => exact leaveA_ok good hn (show leaveA P post (some .ret) r x cs h nx go = true from hk) bs hr (fun h _ => stepR_ret h) fun h1 h2 h3 => stepR_round_ret h1 h2 h3
  | refuse s => cases hk

theorem stepA_ok (good : Good P E wz ρ0 m0 f0 base post go) (hn : NoCount P) (hmix : P.follows .mixedOrders = true) {X : Ext} (hX : ExtOK P X) {todo : List AItem} (hk : stepA P X post todo r x cs h nx go = true)
    (bs : Base P E wz ρ0 m0 f0 ρ m x cs h nx b a.defers callers w) (hh : HeadR P ρ m nx x.n r a.tmps todo its) : Fin P E wz ρ0 m0 f0 base post (lone (b.atR a its) (callers ++ base) w) := by
  cases todo with
  | nil =>
    obtain ⟨hr, hkr⟩ := hh
    have hkr : its = [] := hkr
    subst hkr
    exact leaveA_ok good hn (show leaveA P post none r x cs h nx go = true from hk) bs hr (fun h _ => stepR_end h) fun h1 h2 h3 => stepR_round_end h1 h2 h3
  | cons i k =>
    cases i with
    | code c =>
      obtain ⟨hr, y, its', rfl, rfl, hkr⟩ := hh
      exact stepCode_ok good hn hmix (show stepCode c P post k r x cs h nx go = true from hk) bs hr hkr
    | inBlock id =>
      obtain ⟨hr, y, its', rfl, rfl, hkr⟩ := hh
      exact Fin.of_step stepR_inBlock (good.run (show go k r x cs h nx = true from hk) bs (HeadR.plain hr hkr))
    | inLoop c =>
      obtain ⟨hr, y, its', rfl, rfl, hkr⟩ := hh
      exact Fin.of_step stepR_inLoop (good.run (show go (.code c :: .inLoop c :: k) r x cs h nx = true from hk) bs (HeadR.plain hr ⟨_, _, rfl, rfl, _, _, rfl, rfl, hkr⟩))
    | inScope c =>
      obtain ⟨hr, y, its', rfl, rfl, hkr⟩ := hh
      exact Fin.of_step stepR_inScope (good.run (show go k r x cs h nx = true from hk) bs (HeadR.plain hr hkr))
    | ops all l => exact stepOps_ok good hn hX (show stepOps P X all l k r x cs h nx go = true from hk) bs hh
    | dr all gs asg mks => exact stepDr_ok good hn hX (show stepDr P X all gs asg mks k r x cs h nx go = true from hk) bs hh
    | drw all o gs asg mks => cases hk
    | beginRound =>
      obtain ⟨hr, y, its', rfl, rfl, hkr⟩ := hh
      have hk : (match x.rnd with
        | some l => onLoop h l fun st pend fn n r' ps a b d => (match st with
          | .ready => h.setK l (.loop .busy pend fn n r' ps a b d) fun h => go k r x cs h nx
          | _ => false)
        | none => false) = true := hk
      have hrnd := bs.rnd
      split at hk
      · rename_i l hx
        rw [hx] at hrnd
        obtain ⟨L, hL, hro⟩ := hrnd
        obtain ⟨st, pend, fn, n', r', ps, ca, cb, d, hl, hk⟩ := onLoop_true hk
        split at hk
        · rw [H.setK_eq] at hk
          obtain ⟨hB, hlt⟩ := bs.hs.live l L hL (by rw [hl]; simp)
          rw [hl] at hB
          obtain ⟨tmps, Ld, hLd, hrr, hobj⟩ := hB
          refine Fin.of_step (stepR_beginRound hro (run_beginRound hobj rfl)) (good.run hk (ρ := ρ) (m := m) (bs.next (Ren.ext_refl m ρ) (Nat.le_refl nx) ?_ (SO.other (b := L.blk) (by rw [hobj]; intro c t fr h; cases h) (fun j hj => World.putObj_heap_other hj) rfl rfl)) (HeadR.plain hr hkr))
          refine bs.hs.turn (by rw [hl]; simp) hL World.putObj_size (fun j hj => World.putObj_heap_other hj) (fun _ => ?_) (fun j m ver left cur Lj l v _ _ _ hb => by cases hb)
          exact ⟨tmps, Ld, hLd, hrr, World.putObj_heap_same hlt⟩
        · cases hk
      · cases hk
    | inRF l => cases hk
    | endRF l =>
      obtain ⟨hr, y, its', rfl, ⟨L, hL, rfl⟩, hkr⟩ := hh
      obtain ⟨st, pend, fn, n', r', ps, ca, cb, d, hl, hk⟩ := onLoop_true (show onLoop h l _ = true from hk)
      obtain ⟨hB, hlt⟩ := bs.hs.live l L hL (by rw [hl]; simp)
      rw [hl] at hB
      obtain ⟨tmps, Ld, hLd, hrr, hobj⟩ := hB
      have fin : st ≠ .busy → (h.setK l (.loop .exhausted pend fn n' r' ps ca cb d) fun h => go ((pend.map AItem.code).toList ++ k) r x cs h nx) = true →
          Fin P E wz ρ0 m0 f0 base post (lone (b.atR a (.endRangeFunc L.blk :: its')) (callers ++ base) w) := by
        intro hst hk
        rw [H.setK_eq] at hk
        refine Fin.of_step (stepR_endRF (run_endLoop hobj hst)) (good.run hk (ρ := ρ) (m := m) (bs.next (Ren.ext_refl m ρ) (Nat.le_refl nx) ?_ (SO.other (b := L.blk) (by rw [hobj]; intro c t fr h; cases h) (fun j hj => World.putObj_heap_other hj) rfl rfl)) (HeadR.plain hr ?_))
        · refine bs.hs.turn (by rw [hl]; simp) hL World.putObj_size (fun j hj => World.putObj_heap_other hj) (fun _ => ?_) (fun j m ver left cur Lj l v _ _ _ hb => by cases hb)
          exact ⟨tmps, Ld, hLd, hrr, World.putObj_heap_same hlt⟩
        · cases pend with
          | none => exact hkr
          | some c => exact ⟨_, _, rfl, rfl, hkr⟩
      cases st with
      | busy => cases hk
      | ready => exact fin (by simp) hk
      | done => exact fin (by simp) hk
      | exhausted => exact fin (by simp) hk

theorem stepA_ret (good : Good P E wz ρ0 m0 f0 base post go) (hn : NoCount P) {X : Ext} (hk : stepA P X post [] r x cs h nx go = true) {fr : Frame}
    (bs : Base P E wz ρ0 m0 f0 ρ m x cs h nx fr fr.defers callers w) (hm : fr.mode = .returning) (hrnd : x.rnd = none) (hr : RR ρ x.n r fr.tmps) : Fin P E wz ρ0 m0 f0 base post (lone fr (callers ++ base) w) := by
  have hk : leaveA P post none r x cs h nx go = true := hk
  unfold leaveA at hk
  rw [hrnd] at hk
  exact unwindA_ok good hn x.defs hk (show Base P E wz ρ0 m0 f0 ρ m { x with defs := x.defs } cs h nx fr fr.defers callers w from bs) hm hrnd hr
end

/-- The interpreter is sound. -/
theorem run_good (hn : NoCount P) (hmix : P.follows .mixedOrders = true) {X : Ext} (hX : ExtOK P X) (E : Nat → Option Obj) (wz : World) (ρ0 : Ren) (m0 : Nat) (f0 : FuncId) (base : List Frame) (post : AV → H → Bool) :
    ∀ n : Nat, Good P E wz ρ0 m0 f0 base post (run P X post n)
  | 0 => ⟨fun h => (by cases h), fun h => (by cases h)⟩
  | n + 1 => by
    have ih := run_good hn hmix hX E wz ρ0 m0 f0 base post n
    refine ⟨fun {todo r x cs h nx} hk {ρ m b a its callers w} bs hh => ?_, fun {r x cs h nx} hk {ρ m fr callers w} bs hm hrnd hr => ?_⟩
    · exact stepA_ok ih hn hmix hX (show stepA P X post todo r x cs h nx (run P X post n) = true from hk) bs hh
    · exact stepA_ret ih hn (X := X) (show stepA P X post [] r x cs h nx (run P X post n) = true from hk) bs hm hrnd hr

/-- A call of a function, run through. -/
theorem call_ok (hn : NoCount P) (hmix : P.follows .mixedOrders = true) {X : Ext} (hX : ExtOK P X) {E : Nat → Option Obj} {ρ0 : Ren} {f0 : FuncId} {post : AV → H → Bool} {n : Nat} {args : List AV} {h : H} {nx : Nat}
    (hk : enterA P f0 args .normal [] h nx (run P X post n) = true) {cargs : Array Value} {w : World} (ha : VRs ρ0 args cargs.toList) (hs : HS ρ0 h nx w.heap E) (base : List Frame) :
    Fin P E w ρ0 nx f0 base post (lone (Frame.enter P f0 cargs .normal) base w) :=
  enterA_ok (run_good hn hmix hX E w ρ0 nx f0 base post n) hk (callers := []) ha ⟨rfl, Nat.le_refl _⟩ hs rfl (Ren.ext_refl _ _) (SO.refl w)

end Go.Proofs.YtfcoffpmcmhieaaGreatDoor.AI
