/- The abstract interpreter: regions whose order is drawn. -/
import Derived.Test.YtfcoffpmcmhieaaGreatDoorA3
import Derived.AtR
set_option linter.unusedVariables false
set_option linter.unusedSimpArgs false
namespace Go.Proofs.YtfcoffpmcmhieaaGreatDoor.AI
variable {P : Program}

/-! ### What is left of a region -/
def OpsR (all : Array Oper) : List Nat → List Oper → Prop
  | [], l => l = []
  | i :: is, l => ∃ o l', l = o :: l' ∧ all[i]? = some o ∧ OpsR all is l'

theorem OpsR_range' (all : Array Oper) : ∀ (n s : Nat), s + n = all.size → OpsR all (List.range' s n) (all.toList.drop s)
  | 0, s, h => by
    show all.toList.drop s = []
    exact List.drop_eq_nil_of_le (by simp; omega)
  | n + 1, s, h => by
    rw [List.range'_succ]
    have hs : s < all.toList.length := by simp; omega
    refine ⟨all[s]'(by simpa using hs), all.toList.drop (s + 1), ?_, by simp, OpsR_range' all n (s + 1) (by omega)⟩
    rw [List.drop_eq_getElem_cons hs]
    simp
theorem OpsR_all (all : Array Oper) : OpsR all (List.range all.size) all.toList := by
  have := OpsR_range' all all.size 0 (by omega)
  rw [List.range_eq_range']
  simpa using this

/-! ### Pieces -/
def IR (ρ : Ren) : AItem → Item → Prop
  | .code c, x => x = .code c
  | .inBlock i, x => x = .inBlock i
  | .inLoop c, x => x = .inLoop c
  | .inScope c, x => x = .inScope c
  | .ops all l, x => ∃ is, x = .inRegion all is ∧ OpsR all is l
  | .beginRound, x => x = .beginRound
  | .inRF l, x => ∃ L, ρ l = some L ∧ x = .inRangeFunc L.blk
  | .endRF l, x => ∃ L, ρ l = some L ∧ x = .endRangeFunc L.blk
  | .dr .., _ => False
  | .drw .., _ => False

theorem IR.mono {ρ ρ' : Ren} (hle : ρ.le ρ') {a : AItem} {x : Item} (h : IR ρ a x) : IR ρ' a x := by
  cases a <;> first | exact h | (obtain ⟨L, h1, h2⟩ := h; exact ⟨L, hle _ _ h1, h2⟩)

def KR (ρ : Ren) : List AItem → List Item → Prop
  | [], l => l = []
  | a :: k, l => ∃ x l', l = x :: l' ∧ IR ρ a x ∧ KR ρ k l'

theorem KR.mono {ρ ρ' : Ren} (hle : ρ.le ρ') : ∀ {k : List AItem} {l : List Item}, KR ρ k l → KR ρ' k l
  | [], _, h => h
  | _ :: _, _, ⟨x, l', h1, h2, h3⟩ => ⟨x, l', h1, h2.mono hle, h3.mono hle⟩

def DRs (ρ : Ren) : List ADef → List Deferred → Prop
  | [], l => l = []
  | a :: k, l => ∃ x l', l = x :: l' ∧ DR ρ a x ∧ DRs ρ k l'

theorem DRs.mono {ρ ρ' : Ren} (hle : ρ.le ρ') : ∀ {k : List ADef} {l : List Deferred}, DRs ρ k l → DRs ρ' k l
  | [], _, h => h
  | _ :: _, _, ⟨x, l', h1, h2, h3⟩ => ⟨x, l', h1, h2.mono hle, h3.mono hle⟩

theorem rndR.mono {ρ ρ' : Ren} (hle : ρ.le ρ') {a b : Option Nat} (h : rndR ρ a b) : rndR ρ' a b := by
  cases a with
  | none => exact h
  | some l => obtain ⟨L, h1, h2⟩ := h; exact ⟨L, hle _ _ h1, h2⟩

/-! ### Jumps -/
theorem exitA_ok {ρ : Ren} {id : Nat} : ∀ {k : List AItem} {l : List Item}, KR ρ k l →
    (∀ k', exitA id k = some k' → ∃ l', exitTo id l = some l' ∧ KR ρ k' l') ∧ (exitA id k = none → exitTo id l = none)
  | [], l, h => by
    have : l = [] := h
    subst this
    exact ⟨fun k' hk => by simp [exitA] at hk, fun _ => by simp [exitTo]⟩
  | a :: k, _, ⟨x, l', rfl, h2, h3⟩ => by
    have ih := exitA_ok (id := id) h3
    cases a with
    | inBlock i =>
      have : x = .inBlock i := h2
      subst this
      simp only [exitA, exitTo]
      by_cases e : i == id
      · simp only [e, if_true]
        exact ⟨fun k' hk => by cases hk; exact ⟨l', rfl, h3⟩, fun hk => by cases hk⟩
      · simp only [e, if_false]
        exact ih
    | dr => exact h2.elim
    | drw => exact h2.elim
    | code c => have : x = .code c := h2; subst this; simpa only [exitA, exitTo] using ih
    | inLoop c => have : x = .inLoop c := h2; subst this; simpa only [exitA, exitTo] using ih
    | inScope c => have : x = .inScope c := h2; subst this; simpa only [exitA, exitTo] using ih
    | ops all q => obtain ⟨is, rfl, _⟩ := h2; simpa only [exitA, exitTo] using ih
    | beginRound => have : x = .beginRound := h2; subst this; simpa only [exitA, exitTo] using ih
    | inRF q => obtain ⟨is, _, rfl⟩ := h2; simpa only [exitA, exitTo] using ih
    | endRF q => obtain ⟨is, _, rfl⟩ := h2; simpa only [exitA, exitTo] using ih

theorem gotoA_ok {ρ : Ren} {id : Nat} : ∀ {k : List AItem} {l : List Item}, KR ρ k l →
    (∀ k', gotoA id k = some k' → ∃ l', gotoIn id l = some l' ∧ KR ρ k' l') ∧ (gotoA id k = none → gotoIn id l = none)
  | [], l, h => by
    have : l = [] := h
    subst this
    exact ⟨fun k' hk => by simp [gotoA] at hk, fun _ => by simp [gotoIn]⟩
  | a :: k, _, ⟨x, l', rfl, h2, h3⟩ => by
    have ih := gotoA_ok (id := id) h3
    cases a with
    | inScope c =>
      have : x = .inScope c := h2
      subst this
      simp only [gotoA, gotoIn]
      cases hf : findLabel c id with
      | none => exact ih
      | some rest => exact ⟨fun k' hk => by cases hk; exact ⟨_, rfl, _, _, rfl, rfl, _, _, rfl, rfl, h3⟩, fun hk => by cases hk⟩
    | dr => exact h2.elim
    | drw => exact h2.elim
    | code c => have : x = .code c := h2; subst this; simpa only [gotoA, gotoIn] using ih
    | inLoop c => have : x = .inLoop c := h2; subst this; simpa only [gotoA, gotoIn] using ih
    | inBlock c => have : x = .inBlock c := h2; subst this; simpa only [gotoA, gotoIn] using ih
    | ops all q => obtain ⟨is, rfl, _⟩ := h2; simpa only [gotoA, gotoIn] using ih
    | beginRound => have : x = .beginRound := h2; subst this; simpa only [gotoA, gotoIn] using ih
    | inRF q => obtain ⟨is, _, rfl⟩ := h2; simpa only [gotoA, gotoIn] using ih
    | endRF q => obtain ⟨is, _, rfl⟩ := h2; simpa only [gotoA, gotoIn] using ih

end Go.Proofs.YtfcoffpmcmhieaaGreatDoor.AI
namespace Go.Proofs.YtfcoffpmcmhieaaGreatDoor.AI
variable {P : Program}

/-! ### An operation looks at its own operands alone -/
def Same (r r' : R) (x : Operand) : Prop := ∀ t, x = .tmp t → r.get t = r'.get t

theorem ev_same {h : H} {r r' : R} {x : Operand} (hs : Same r r' x) : ev h r x = ev h r' x := by
  cases x with
  | tmp t => exact hs t rfl
  | const v => rfl
  | global g => rfl
  | func f => rfl
theorem evs_same {h : H} {r r' : R} : ∀ {l : List Operand}, (∀ x ∈ l, Same r r' x) → evs h r l = evs h r' l
  | [], _ => rfl
  | x :: l, hs => by
    show ev h r x :: evs h r l = ev h r' x :: evs h r' l
    rw [ev_same (hs x (by simp)), evs_same fun y hy => hs y (by simp [hy])]
theorem evParts_same {h : H} {r r' : R} {ps : Array (Nat × Operand)} (hs : ∀ x ∈ ps.toList.map (·.2), Same r r' x) : evParts h r ps = evParts h r' ps := by
  unfold evParts
  apply List.map_congr_left
  intro p hp
  rw [ev_same (hs p.2 (List.mem_map.2 ⟨p, hp, rfl⟩))]
theorem boundK_same {h : H} {r r' : R} {x : Option Operand} {d : Nat} {k : Nat → Bool} (hs : ∀ y ∈ x.toList, Same r r' y) : boundK h r x d k = boundK h r' x d k := by
  cases x with
  | none => rfl
  | some x =>
    show (ev h r x).onInt _ = (ev h r' x).onInt _
    rw [ev_same (hs x (by simp))]

theorem exec_same {op : Op} {r r' : R} {h : H} {nx : Nat} {k : K} (hs : ∀ x ∈ op.operands, Same r r' x) : exec op P r h nx k = exec op P r' h nx k := by
  cases op with
  | move x => show opMove x P r h nx k = opMove x P r' h nx k; unfold opMove; rw [ev_same (hs x (by simp [Op.operands]))]
  | assign x => show opMove x P r h nx k = opMove x P r' h nx k; unfold opMove; rw [ev_same (hs x (by simp [Op.operands]))]
  | pick c x y =>
    have e1 := ev_same (h := h) (hs c (by simp [Op.operands])); have e2 := ev_same (h := h) (hs x (by simp [Op.operands])); have e3 := ev_same (h := h) (hs y (by simp [Op.operands]))
    show opPick c x y P r h nx k = opPick c x y P r' h nx k
    unfold opPick
    rw [e1]
    congr 1
    funext t
    cases t
    · show k (.val (ev h r y) h nx) = k (.val (ev h r' y) h nx); rw [e3]
    · show k (.val (ev h r x) h nx) = k (.val (ev h r' x) h nx); rw [e2]
  | alloc t => rfl
  | box t x => show opBox t x P r h nx k = opBox t x P r' h nx k; unfold opBox; rw [ev_same (hs x (by simp [Op.operands]))]
  | build t ps => show opBuild t ps P r h nx k = opBuild t ps P r' h nx k; unfold opBuild; rw [evParts_same fun x hx => hs x (by simpa [Op.operands] using hx)]
  | buildSlice t l ps => show opBuildSlice t l ps P r h nx k = opBuildSlice t l ps P r' h nx k; unfold opBuildSlice; rw [evParts_same fun x hx => hs x (by simpa [Op.operands] using hx)]
  | insert t m y v =>
    show opMapUpdate t m y v P r h nx k = opMapUpdate t m y v P r' h nx k
    unfold opMapUpdate
    rw [ev_same (hs m (by simp [Op.operands])), ev_same (hs y (by simp [Op.operands])), ev_same (hs v (by simp [Op.operands]))]
  | load t x => show opLoad t x P r h nx k = opLoad t x P r' h nx k; unfold opLoad; rw [ev_same (hs x (by simp [Op.operands]))]
  | store t x y => show opStore t x y P r h nx k = opStore t x y P r' h nx k; unfold opStore; rw [ev_same (hs x (by simp [Op.operands])), ev_same (hs y (by simp [Op.operands]))]
  | nilCheck x => show opNilCheck x P r h nx k = opNilCheck x P r' h nx k; unfold opNilCheck; rw [ev_same (hs x (by simp [Op.operands]))]
  | binOp op t x y u =>
    have e1 := ev_same (h := h) (hs x (by simp [Op.operands])); have e2 := ev_same (h := h) (hs y (by simp [Op.operands]))
    have es : ∀ op, binSlow op t x y P r h nx k = binSlow op t x y P r' h nx k := fun op => by unfold binSlow; rw [e1, e2]
    have eq : ∀ op b, binEq op b t x y P r h nx k = binEq op b t x y P r' h nx k := fun op b => by unfold binEq; rw [e1, e2, es]
    have ea : ∀ f op, arith f op t x y P r h nx k = arith f op t x y P r' h nx k := fun f op => by unfold arith; rw [e1, e2, es]
    have ec : ∀ f op, comp f op t x y P r h nx k = comp f op t x y P r' h nx k := fun f op => by unfold comp; rw [e1, e2, es]
    have ee : ∀ f op b, compE f op b t x y P r h nx k = compE f op b t x y P r' h nx k := fun f op b => by unfold compE; rw [e1, e2, eq]
    cases op <;> first | exact ea _ _ | exact es _ | exact ec _ _ | exact ee _ _ _
  | unOp op t x => show opUn op t x P r h nx k = opUn op t x P r' h nx k; unfold opUn; rw [ev_same (hs x (by simp [Op.operands]))]
  | convert t u x => show opConvert t u x P r h nx k = opConvert t u x P r' h nx k; unfold opConvert; rw [ev_same (hs x (by simp [Op.operands]))]
  | makeInterface t x => show opMakeInterface t x P r h nx k = opMakeInterface t x P r' h nx k; unfold opMakeInterface; rw [ev_same (hs x (by simp [Op.operands]))]
  | makeFunc f x y =>
    show opMakeFunc f x y P r h nx k = opMakeFunc f x y P r' h nx k
    unfold opMakeFunc
    rw [evs_same fun z hz => hs z (by simp [Op.operands]; exact .inr (by simpa using hz))]
    have e1 : ∀ z ∈ x.toList, ev h r z = ev h r' z := fun z hz => ev_same (hs z (by simp [Op.operands]; exact .inl (by simpa using hz)))
    cases f <;> try rfl
    rename_i f
    show (match x.toList with | [] => _ | [x] => _ | _ => _) = (match x.toList with | [] => _ | [x] => _ | _ => _)
    revert e1
    generalize x.toList = l
    intro e1
    match l, e1 with
    | [], _ => rfl
    | [z], e1 => simp only []; rw [e1 z (by simp)]
    | _ :: _ :: _, _ => rfl
  | makeMap t x =>
    show opMakeMap t x P r h nx k = opMakeMap t x P r' h nx k
    unfold opMakeMap
    cases x with
    | none => rfl
    | some x => simp only []; rw [ev_same (hs x (by simp [Op.operands]))]
  | makeSlice t x y => show opMakeSlice t x y P r h nx k = opMakeSlice t x y P r' h nx k; unfold opMakeSlice; rw [ev_same (hs x (by simp [Op.operands])), ev_same (hs y (by simp [Op.operands]))]
  | slice t x lo hi mx =>
    have e1 := ev_same (h := h) (hs x (by simp [Op.operands]))
    have e2 : ∀ d k, boundK h r lo d k = boundK h r' lo d k := fun d k => boundK_same fun y hy => hs y (by simp [Op.operands]; simp at hy; simp [hy])
    have e3 : ∀ d k, boundK h r hi d k = boundK h r' hi d k := fun d k => boundK_same fun y hy => hs y (by simp [Op.operands]; simp at hy; simp [hy])
    show opSlice t x lo hi mx P r h nx k = opSlice t x lo hi mx P r' h nx k
    unfold opSlice
    cases mx with
    | none => simp only [e1, e2, e3]
    | some m =>
      have e4 := ev_same (h := h) (hs m (by simp [Op.operands]))
      simp only [e1, e2, e3, e4]
  | fieldAddr t x f => show opFieldAddr t x f P r h nx k = opFieldAddr t x f P r' h nx k; unfold opFieldAddr; rw [ev_same (hs x (by simp [Op.operands]))]
  | field t x f => show opField t x f P r h nx k = opField t x f P r' h nx k; unfold opField; rw [ev_same (hs x (by simp [Op.operands]))]
  | indexAddr t x i => show opIndexAddr t x i P r h nx k = opIndexAddr t x i P r' h nx k; unfold opIndexAddr; rw [ev_same (hs x (by simp [Op.operands])), ev_same (hs i (by simp [Op.operands]))]
  | index t x i => show opIndex t x i P r h nx k = opIndex t x i P r' h nx k; unfold opIndex; rw [ev_same (hs x (by simp [Op.operands])), ev_same (hs i (by simp [Op.operands]))]
  | lookup t x i ok => show opLookup t x i ok P r h nx k = opLookup t x i ok P r' h nx k; unfold opLookup; rw [ev_same (hs x (by simp [Op.operands])), ev_same (hs i (by simp [Op.operands]))]
  | mapUpdate t m y v =>
    show opMapUpdate t m y v P r h nx k = opMapUpdate t m y v P r' h nx k
    unfold opMapUpdate
    rw [ev_same (hs m (by simp [Op.operands])), ev_same (hs y (by simp [Op.operands])), ev_same (hs v (by simp [Op.operands]))]
  | range t x => show opRange t x P r h nx k = opRange t x P r' h nx k; unfold opRange; rw [ev_same (hs x (by simp [Op.operands]))]
  | next x s => show opNext x s P r h nx k = opNext x s P r' h nx k; unfold opNext; rw [ev_same (hs x (by simp [Op.operands]))]
  | entry x => show opEntry x P r h nx k = opEntry x P r' h nx k; unfold opEntry; rw [ev_same (hs x (by simp [Op.operands]))]
  | typeAssert x t u ok => show opTypeAssert x t u ok P r h nx k = opTypeAssert x t u ok P r' h nx k; unfold opTypeAssert; rw [ev_same (hs x (by simp [Op.operands]))]
  | extract x i => show opExtract x i P r h nx k = opExtract x i P r' h nx k; unfold opExtract; rw [ev_same (hs x (by simp [Op.operands]))]
  | call c =>
    obtain ⟨callee, args, ts⟩ := c
    have ea : evs h r args.toList = evs h r' args.toList := evs_same fun x hx => hs x (by cases callee <;> simp [Op.operands, Call.operands] <;> first | exact .inr (by simpa using hx) | simpa using hx)
    show calleeK callee ts (evs h r args.toList) P r h nx k = calleeK callee ts (evs h r' args.toList) P r' h nx k
    rw [ea]
    cases callee with
    | value f => show callVal (ev h r f) _ k = callVal (ev h r' f) _ k; rw [ev_same (hs f (by simp [Op.operands, Call.operands]))]
    | invoke recv name => show calleeInvoke recv name ts _ P r h nx k = calleeInvoke recv name ts _ P r' h nx k; unfold calleeInvoke; rw [ev_same (hs recv (by simp [Op.operands, Call.operands]))]
    | builtin b => rfl
  | defer c =>
    obtain ⟨callee, args, ts⟩ := c
    show opDefer ⟨callee, args, ts⟩ P r h nx k = opDefer ⟨callee, args, ts⟩ P r' h nx k
    unfold opDefer
    cases callee with
    | value f =>
      have ea : evs h r args.toList = evs h r' args.toList := evs_same fun x hx => hs x (by simp [Op.operands, Call.operands]; exact .inr (by simpa using hx))
      simp only [ea, ev_same (hs f (by simp [Op.operands, Call.operands]))]
    | _ => rfl
  | _ => rfl

/-! ### Registers, but for some -/
structure RX (ρ : Ren) (n : Nat) (r : R) (tmps : Array Value) (X : Nat → Prop) : Prop where
  size : tmps.size = n
  le : n ≤ 448
  lt : ∀ t : Nat, X t → t < n
  val : ∀ t : Nat, ¬ X t → VR ρ (r.get t) (tmps.getD t undef)

theorem RX.of_RR {ρ : Ren} {n : Nat} {r : R} {tmps : Array Value} (h : RR ρ n r tmps) : RX ρ n r tmps fun _ => False := ⟨h.size, h.le, fun _ h => h.elim, fun t _ => h.val t⟩
theorem RX.to_RR {ρ : Ren} {n : Nat} {r : R} {tmps : Array Value} {X : Nat → Prop} (h : RX ρ n r tmps X) (hx : ∀ t, ¬ X t) : RR ρ n r tmps := ⟨h.size, h.le, fun t => h.val t (hx t)⟩
theorem RX.mono {ρ ρ' : Ren} (hle : ρ.le ρ') {n : Nat} {r : R} {tmps : Array Value} {X : Nat → Prop} (h : RX ρ n r tmps X) : RX ρ' n r tmps X := ⟨h.size, h.le, h.lt, fun t ht => VR.mono hle _ (h.val t ht)⟩

theorem topped (r : R) (X : Nat → Prop) (n : Nat) (hn : n ≤ 448) : ∃ r' : R, ∀ t : Nat, (X t ∧ t < n → r'.get t = .top) ∧ (¬ (X t ∧ t < n) → r'.get t = r.get t) := by
  induction n with
  | zero => exact ⟨r, fun t => ⟨fun h => absurd h.2 (by omega), fun _ => rfl⟩⟩
  | succ n ih =>
    obtain ⟨r', hr'⟩ := ih (by omega)
    by_cases hx : X n
    · refine ⟨r'.set n .top, fun t => ?_⟩
      by_cases e : t = n
      · subst e
        exact ⟨fun _ => R.get_set_same _ _ _, fun h => absurd ⟨hx, by omega⟩ h⟩
      · rw [R.get_set_ne _ _ (by omega) e]
        exact ⟨fun h => (hr' t).1 ⟨h.1, by omega⟩, fun h => (hr' t).2 fun h' => h ⟨h'.1, by omega⟩⟩
    · refine ⟨r', fun t => ⟨fun h => (hr' t).1 ⟨h.1, ?_⟩, fun h => (hr' t).2 fun h' => h ⟨h'.1, by omega⟩⟩⟩
      rcases Nat.lt_or_ge t n with h1 | h1
      · exact h1
      · have : t = n := by omega
        subst this; exact absurd h.1 hx

theorem RX.top {ρ : Ren} {n : Nat} {r : R} {tmps : Array Value} {X : Nat → Prop} (h : RX ρ n r tmps X) : ∃ r', RR ρ n r' tmps ∧ ∀ t : Nat, ¬ X t → r.get t = r'.get t := by
  obtain ⟨r', hr'⟩ := topped r X n h.le
  refine ⟨r', ⟨h.size, h.le, fun t => ?_⟩, fun t ht => ((hr' t).2 fun h' => ht h'.1).symm⟩
  by_cases hx : X t
  · rw [(hr' t).1 ⟨hx, h.lt t hx⟩]; simp only [VR]
  · rw [(hr' t).2 fun h' => hx h'.1]; exact h.val t hx

/-- A register is laid. -/
theorem RX.set {ρ : Ren} {n : Nat} {r : R} {tmps : Array Value} {X Y : Nat → Prop} (h : RX ρ n r tmps X) {d : Nat} (hd : d < n) {a : AV} {v : Value} (hv : VR ρ a v) (hY : ∀ t : Nat, Y t → t < n) (hXY : ∀ t : Nat, t ≠ d → X t → Y t) :
    RX ρ n (r.set d a) (tmps.setIfInBounds d v) Y := by
  refine ⟨by simp [h.size], h.le, hY, fun t ht => ?_⟩
  by_cases e : t = d
  · subst e
    rw [R.get_set_same]
    have : t < tmps.size := by rw [h.size]; exact hd
    simp [this, hv]
  · rw [R.get_set_ne _ _ (by have := h.le; omega) e]
    have : (tmps.setIfInBounds d v).getD t undef = tmps.getD t undef := by
      simp [Array.getElem?_setIfInBounds_ne (Ne.symm e)]
    rw [this]; exact h.val t fun hx => ht (hXY t e hx)

/-- An operation whose operands are known. -/
theorem exec_okX {ρ : Ren} {h : H} {nx : Nat} {w : World} {E : Nat → Option Obj} {n : Nat} {r : R} {a : Act} {k : K} {X : Nat → Prop} (hs : HS ρ h nx w.heap E) (hr : RX ρ n r a.tmps X) {o : Oper}
    (ho : ∀ t : Nat, .tmp t ∈ o.op.operands → ¬ X t) (hk : exec o.op P r h nx k = true) : ExecRes P o a ρ h nx w E k := by
  obtain ⟨r', h1, h2⟩ := hr.top
  rw [exec_same (r' := r') fun x hx t ht => h2 t (ho t (by rw [← ht]; exact hx))] at hk
  exact exec_ok ⟨hs, h1⟩ hk

end Go.Proofs.YtfcoffpmcmhieaaGreatDoor.AI
namespace Go.Proofs.YtfcoffpmcmhieaaGreatDoor.AI
open Go.Region (binds Mode)

/-- Is the operation i before the operation j? -/
def befB (all : Array Oper) (j i : Nat) : Bool := ((befL all).getD j 0).testBit i

def befVal (acc : Array Nat) (o : Oper) : Nat := o.after.foldl (fun s e => if binds .any e then s ||| 2 ^ e.on ||| acc.getD e.on 0 else s) 0

theorem befVal_bit (acc : Array Nat) (o : Oper) (i : Nat) : (befVal acc o).testBit i = true ↔ ∃ e ∈ o.after.toList, binds .any e = true ∧ (i = e.on ∨ (acc.getD e.on 0).testBit i = true) := by
  unfold befVal
  rw [← Array.foldl_toList]
  generalize o.after.toList = l
  suffices h : ∀ (l : List Edge) (s : Nat), (l.foldl (fun s e => if binds .any e then s ||| 2 ^ e.on ||| acc.getD e.on 0 else s) s).testBit i = true ↔
      s.testBit i = true ∨ ∃ e ∈ l, binds .any e = true ∧ (i = e.on ∨ (acc.getD e.on 0).testBit i = true) by
    rw [h l 0]; simp
  intro l
  induction l with
  | nil => intro s; simp
  | cons e l ih =>
    intro s
    rw [List.foldl_cons, ih]
    by_cases hb : binds .any e = true
    · simp only [hb, if_true, Nat.testBit_or, Nat.testBit_two_pow, Bool.or_eq_true, decide_eq_true_eq]
      constructor
      · rintro (((h | h) | h) | ⟨x, hx, h⟩)
        · exact .inl h
        · exact .inr ⟨e, by simp, hb, .inl h.symm⟩
        · exact .inr ⟨e, by simp, hb, .inr h⟩
        · exact .inr ⟨x, by simp [hx], h⟩
      · rintro (h | ⟨x, hx, hbx, h⟩)
        · exact .inl (.inl (.inl h))
        · rcases List.mem_cons.1 hx with rfl | hx
          · rcases h with h | h
            · exact .inl (.inl (.inr h.symm))
            · exact .inl (.inr h)
          · exact .inr ⟨x, hx, hbx, h⟩
    · simp only [hb, Bool.false_eq_true, if_false]
      constructor
      · rintro (h | ⟨x, hx, h⟩)
        · exact .inl h
        · exact .inr ⟨x, by simp [hx], h⟩
      · rintro (h | ⟨x, hx, hbx, h⟩)
        · exact .inl h
        · rcases List.mem_cons.1 hx with rfl | hx
          · exact absurd hbx hb
          · exact .inr ⟨x, hx, hbx, h⟩

theorem before_fold (l : List Oper) : ∀ acc : Array Nat, (l.foldl (fun acc o => acc.push (befVal acc o)) acc).size = acc.size + l.length ∧
    (∀ j, j < acc.size → (l.foldl (fun acc o => acc.push (befVal acc o)) acc)[j]? = acc[j]?) ∧
    ∀ (k : Nat) (o : Oper), l[k]? = some o → ∃ acc' : Array Nat, acc'.size = acc.size + k ∧ (∀ j, j < acc'.size → (l.foldl (fun acc o => acc.push (befVal acc o)) acc)[j]? = acc'[j]?) ∧
      (l.foldl (fun acc o => acc.push (befVal acc o)) acc)[acc.size + k]? = some (befVal acc' o) := by
  induction l with
  | nil => intro acc; simp
  | cons o l ih =>
    intro acc
    obtain ⟨h1, h2, h3⟩ := ih (acc.push (befVal acc o))
    simp only [List.foldl_cons]
    refine ⟨by rw [h1]; simp; omega, fun j hj => by rw [h2 j (by simp; omega), Array.getElem?_push, if_neg (by omega)], fun k p hk => ?_⟩
    cases k with
    | zero =>
      simp at hk; subst hk
      exact ⟨acc, rfl, fun j hj => by rw [h2 j (by simp; omega), Array.getElem?_push, if_neg (by omega)], by rw [h2 _ (by simp)]; simp⟩
    | succ k =>
      obtain ⟨acc', g1, g2, g3⟩ := h3 k p (by simpa using hk)
      refine ⟨acc', by rw [g1]; simp; omega, g2, ?_⟩
      rw [show acc.size + (k + 1) = (acc.push (befVal acc o)).size + k by simp; omega]; exact g3

/-- Edges go back. -/
def Back (all : Array Oper) : Prop := ∀ (j : Nat) (o : Oper), all[j]? = some o → ∀ e ∈ o.after.toList, binds .any e = true → e.on < j

theorem befB_iff {all : Array Oper} (hb : Back all) {j : Nat} {o : Oper} (ho : all[j]? = some o) (i : Nat) :
    befB all j i = true ↔ ∃ e ∈ o.after.toList, binds .any e = true ∧ (i = e.on ∨ befB all e.on i = true) := by
  obtain ⟨_, _, h3⟩ := before_fold all.toList #[]
  obtain ⟨acc', g1, g2, g3⟩ := h3 j o (by simpa using ho)
  have hbef : Region.before all = all.toList.foldl (fun acc o => acc.push (befVal acc o)) #[] := by
    unfold Region.before
    rw [← Array.foldl_toList]
    rfl
  have hget : ∀ k, (befL all).getD k 0 = ((Region.before all)[k]?).getD 0 := fun k => by simp [befL]
  have hz : (#[] : Array Nat).size = 0 := rfl
  rw [hz, Nat.zero_add] at g1 g3
  unfold befB
  rw [hget, hbef, g3, Option.getD_some, befVal_bit]
  constructor
  · rintro ⟨e, he, hbe, h⟩
    refine ⟨e, he, hbe, h.imp id fun h => ?_⟩
    have hlt := hb j o ho e he hbe
    rw [hget, hbef, g2 _ (by omega)]
    simpa using h
  · rintro ⟨e, he, hbe, h⟩
    refine ⟨e, he, hbe, h.imp id fun h => ?_⟩
    have hlt := hb j o ho e he hbe
    rw [hget, hbef, g2 _ (by omega)] at h
    simpa using h

theorem befB_lt {all : Array Oper} (hb : Back all) : ∀ (j i : Nat), befB all j i = true → i < j := by
  intro j
  induction j using Nat.strongRecOn with
  | ind j ih =>
    intro i h
    cases ho : all[j]? with
    | none =>
      have hl : all.size ≤ j := by simpa using ho
      obtain ⟨h1, _, _⟩ := before_fold all.toList #[]
      have hbef : Region.before all = all.toList.foldl (fun acc o => acc.push (befVal acc o)) #[] := by
        unfold Region.before
        rw [← Array.foldl_toList]
        rfl
      have : (befL all).getD j 0 = 0 := by
        have : (Region.before all)[j]? = none := by rw [hbef]; simp at h1; simp; omega
        simp [befL, this]
      unfold befB at h
      rw [this] at h
      simp at h
    | some o =>
      obtain ⟨e, he, hbe, h⟩ := (befB_iff hb ho i).1 h
      have hlt := hb j o ho e he hbe
      rcases h with h | h
      · omega
      · have := ih e.on hlt i h; omega

theorem befB_trans {all : Array Oper} (hb : Back all) : ∀ (j i k : Nat), befB all j i = true → befB all i k = true → befB all j k = true := by
  intro j
  induction j using Nat.strongRecOn with
  | ind j ih =>
    intro i k h hk
    cases ho : all[j]? with
    | none =>
      have := befB_lt hb j i h
      exfalso
      have hl : all.size ≤ j := by simpa using ho
      obtain ⟨h1, _, _⟩ := before_fold all.toList #[]
      have hbef : Region.before all = all.toList.foldl (fun acc o => acc.push (befVal acc o)) #[] := by
        unfold Region.before
        rw [← Array.foldl_toList]
        rfl
      have h0 : (befL all).getD j 0 = 0 := by
        have : (Region.before all)[j]? = none := by rw [hbef]; simp at h1; simp; omega
        simp [befL, this]
      unfold befB at h
      rw [h0] at h
      simp at h
    | some o =>
      obtain ⟨e, he, hbe, h⟩ := (befB_iff hb ho i).1 h
      have hlt := hb j o ho e he hbe
      refine (befB_iff hb ho k).2 ⟨e, he, hbe, .inr ?_⟩
      rcases h with h | h
      · subst h; exact hk
      · exact ih e.on hlt i k h hk

/-- What is left is in order: each stands behind all that is before it. -/
def OrdL (all : Array Oper) : List Nat → Prop
  | [] => True
  | i :: l => i ∉ l ∧ (∀ b, befB all i b = true → b ∉ i :: l) ∧ OrdL all l

/-! ### What is drawn is in order -/
theorem lin_order {all : Array Oper} (hb : Back all) : ∀ (fuel t : Nat) (listed : Array Bool), listed.size = all.size → (List.range all.size).countP (fun i => !listed.getD i true) = fuel →
    (∀ i b, i < all.size → listed.getD i true = true → befB all i b = true → listed.getD b true = true) →
    OrdL all (Region.linearise.go .any all fuel t listed []) ∧ ∀ i, i ∈ Region.linearise.go .any all fuel t listed [] ↔ (i < all.size ∧ listed.getD i true = false) := by
  intro fuel
  induction fuel with
  | zero =>
    intro t listed hs hc hd
    refine ⟨by simp [Region.linearise.go, OrdL], fun i => ?_⟩
    simp only [Region.linearise.go, List.reverse_nil, List.not_mem_nil, false_iff]
    rintro ⟨h1, h2⟩
    have := List.countP_eq_zero.1 hc i (List.mem_range.2 h1)
    rw [h2] at this
    simp at this
  | succ fuel ih =>
    intro t listed hs hc hd
    simp only [Region.linearise.go]
    change OrdL all (match (Region.ready .any all listed)[t % (Region.ready .any all listed).length]? with
      | some i => Region.linearise.go .any all fuel (t / (Region.ready .any all listed).length) (listed.setIfInBounds i true) [i]
      | none => [].reverse) ∧ ∀ i, i ∈ (match (Region.ready .any all listed)[t % (Region.ready .any all listed).length]? with
      | some i => Region.linearise.go .any all fuel (t / (Region.ready .any all listed).length) (listed.setIfInBounds i true) [i]
      | none => [].reverse) ↔ _
    -- something is ready
    have hex : ∃ i, i < all.size ∧ listed.getD i true = false := by
      have : 0 < (List.range all.size).countP fun i => !listed.getD i true := by omega
      obtain ⟨i, hi, h⟩ := List.countP_pos_iff.1 this
      exact ⟨i, List.mem_range.1 hi, by simpa using h⟩
    have hmin : ∃ i, i < all.size ∧ listed.getD i true = false ∧ ∀ j, j < i → listed.getD j true = true := by
      obtain ⟨i, hi⟩ := hex
      induction i using Nat.strongRecOn with
      | ind i ih2 =>
        by_cases h : ∃ j, j < i ∧ listed.getD j true = false
        · obtain ⟨j, hj, hl⟩ := h
          exact ih2 j hj ⟨by omega, hl⟩
        · exact ⟨i, hi.1, hi.2, fun j hj => by
            cases hjl : listed.getD j true with
            | true => rfl
            | false => exact absurd ⟨j, hj, hjl⟩ h⟩
    have hready : ∀ i, i ∈ Region.ready .any all listed ↔ i < all.size ∧ listed.getD i true = false ∧ ∀ o, all[i]? = some o → ∀ e ∈ o.after.toList, binds .any e = true → listed.getD e.on false = true := by
      intro i
      unfold Region.ready
      rw [List.mem_filter, List.mem_range]
      constructor
      · rintro ⟨h1, h2⟩
        simp only [Bool.and_eq_true, Bool.not_eq_true'] at h2
        refine ⟨h1, h2.1, fun o ho e he hbe => ?_⟩
        have h3 := h2.2
        rw [ho] at h3
        simp only [Option.map_some, Option.getD_some, Array.all_eq_true'] at h3
        have := h3 e (by simpa using he)
        simpa [hbe] using this
      · rintro ⟨h1, h2, h3⟩
        refine ⟨h1, ?_⟩
        simp only [Bool.and_eq_true, Bool.not_eq_true']
        refine ⟨h2, ?_⟩
        rw [Array.getElem?_eq_getElem h1]
        simp only [Option.map_some, Option.getD_some, Array.all_eq_true']
        intro e he
        cases hbe : binds .any e with
        | false => rfl
        | true => simpa using h3 _ (Array.getElem?_eq_getElem h1) e (by simpa using he) hbe
    have hne : Region.ready .any all listed ≠ [] := by
      obtain ⟨i, h1, h2, h3⟩ := hmin
      have : i ∈ Region.ready .any all listed := (hready i).2 ⟨h1, h2, fun o ho e he hbe => by
        have hlt := hb i o ho e he hbe
        have := h3 e.on hlt
        have hl : e.on < listed.size := by omega
        simp [hl] at this ⊢
        exact this⟩
      intro h0
      rw [h0] at this
      cases this
    have hlen : 0 < (Region.ready .any all listed).length := List.length_pos_iff.2 hne
    have hlt : t % (Region.ready .any all listed).length < (Region.ready .any all listed).length := Nat.mod_lt _ hlen
    rw [List.getElem?_eq_getElem hlt]
    simp only []
    generalize hi : (Region.ready .any all listed)[t % (Region.ready .any all listed).length] = i
    have hmem : i ∈ Region.ready .any all listed := by rw [← hi]; exact List.getElem_mem _
    obtain ⟨h1, h2, h3⟩ := (hready i).1 hmem
    have hget : ∀ j, (listed.setIfInBounds i true).getD j true = if j = i then true else listed.getD j true := fun j => by
      by_cases e : j = i
      · subst e
        have : j < listed.size := by omega
        simp [this]
      · simp [Array.getElem?_setIfInBounds_ne (Ne.symm e), e]
    have hbefore : ∀ b, befB all i b = true → listed.getD b true = true := by
      intro b hbb
      obtain ⟨e, he, hbe, h⟩ := (befB_iff hb (Array.getElem?_eq_getElem h1) b).1 hbb
      have hl := h3 _ (Array.getElem?_eq_getElem h1) e he hbe
      have hlt := hb i _ (Array.getElem?_eq_getElem h1) e he hbe
      have hl' : listed.getD e.on true = true := by
        have hl2 : e.on < listed.size := by omega
        simp [hl2] at hl ⊢
        exact hl
      rcases h with h | h
      · subst h; exact hl'
      · exact hd e.on b (by omega) hl' h
    obtain ⟨g1, g2⟩ := ih (t / (Region.ready .any all listed).length) (listed.setIfInBounds i true) (by simp [hs]) (by
      have hcount : (List.range all.size).countP (fun j => !listed.getD j true) = (List.range all.size).countP (fun j => !(listed.setIfInBounds i true).getD j true) + 1 := by
        have hr : List.range all.size = List.range i ++ i :: (List.range' (i + 1) (all.size - i - 1)) := by
          rw [List.range_eq_range', List.range_eq_range', ← List.range'_succ, show all.size = i + (all.size - i - 1 + 1) by omega, ← List.range'_append_1]
          simp
        rw [hr, List.countP_append, List.countP_append, List.countP_cons, List.countP_cons]
        have e1 : (List.range i).countP (fun j => !(listed.setIfInBounds i true).getD j true) = (List.range i).countP (fun j => !listed.getD j true) := by
          apply List.countP_congr
          intro j hj
          rw [hget, if_neg (by have := List.mem_range.1 hj; omega)]
        have e2 : (List.range' (i + 1) (all.size - i - 1)).countP (fun j => !(listed.setIfInBounds i true).getD j true) = (List.range' (i + 1) (all.size - i - 1)).countP (fun j => !listed.getD j true) := by
          apply List.countP_congr
          intro j hj
          rw [hget, if_neg (by have := List.mem_range'_1.1 hj; omega)]
        rw [e1, e2, hget, if_pos rfl, h2]
        simp
        omega
      omega) (fun j b hj hl hbb => by
        rw [hget] at hl ⊢
        split
        · rfl
        · split at hl
          · rename_i e; subst e; exact hbefore b hbb
          · exact hd j b hj hl hbb)
    rw [linearise_go_acc]
    refine ⟨?_, fun j => ?_⟩
    · show OrdL all (i :: _)
      refine ⟨fun h => ?_, fun b hbb h => ?_, g1⟩
      · have := (g2 i).1 h
        rw [hget, if_pos rfl] at this
        cases this.2
      · have hbl := hbefore b hbb
        rcases List.mem_cons.1 h with rfl | h
        · rw [h2] at hbl; cases hbl
        · have := (g2 b).1 h
          rw [hget] at this
          split at this
          · cases this.2
          · rw [hbl] at this; cases this.2
    · rw [List.reverse_singleton, List.singleton_append, List.mem_cons, g2, hget]
      by_cases e : j = i
      · subst e; simp [h1, h2]
      · simp [e]

theorem schedule_order {P : Program} (hm : P.follows .mixedOrders = true) {all : Array Oper} (hb : Back all) (t : Nat) :
    OrdL all (Region.schedule (P.follows .mixedOrders) all t) ∧ ∀ i, i ∈ Region.schedule (P.follows .mixedOrders) all t ↔ i < all.size := by
  have hf : ∀ i, i < all.size → (Array.replicate all.size false).getD i true = false := fun i hi => by simp [hi]
  obtain ⟨h1, h2⟩ := lin_order hb all.size t (Array.replicate all.size false) (by simp) (by
    rw [List.countP_eq_length.2 fun i hi => by rw [hf i (List.mem_range.1 hi)]; rfl]
    simp) (fun i b hi hl => by rw [hf i hi] at hl; cases hl)
  simp only [Region.schedule, hm, Bool.true_or, if_true]
  refine ⟨h1, fun i => ?_⟩
  rw [show Region.linearise .any all t = Region.linearise.go .any all all.size t (Array.replicate all.size false) [] from rfl, h2]
  exact ⟨fun h => h.1, fun h => ⟨h, hf i h⟩⟩

end Go.Proofs.YtfcoffpmcmhieaaGreatDoor.AI
namespace Go.Proofs.YtfcoffpmcmhieaaGreatDoor.AI
variable {P : Program}

/-! ### Comparing -/
mutual
theorem avEq_eq : ∀ (a b : AV), avEq a b = true → a = b
  | .bool x, b, h => by cases b <;> simp [avEq] at h; subst h; rfl
  | .int k n, b, h => by cases b <;> simp [avEq] at h; obtain ⟨rfl, rfl⟩ := h; rfl
  | .str s, b, h => by cases b <;> simp [avEq] at h; subst h; rfl
  | .nilptr, b, h => by cases b <;> simp [avEq] at h; rfl
  | .nilslice, b, h => by cases b <;> simp [avEq] at h; rfl
  | .nilmap, b, h => by cases b <;> simp [avEq] at h; rfl
  | .nilfunc, b, h => by cases b <;> simp [avEq] at h; rfl
  | .nilif, b, h => by cases b <;> simp [avEq] at h; rfl
  | .ptr x o, b, h => by cases b <;> simp [avEq] at h; obtain ⟨rfl, rfl⟩ := h; rfl
  | .slice x o l c e s, b, h => by cases b <;> simp [avEq] at h; obtain ⟨⟨⟨⟨⟨rfl, rfl⟩, rfl⟩, rfl⟩, rfl⟩, rfl⟩ := h; rfl
  | .map x, b, h => by cases b <;> simp [avEq] at h; subst h; rfl
  | .yield x, b, h => by cases b <;> simp [avEq] at h; subst h; rfl
  | .func f l, b, h => by
    cases b <;> simp [avEq] at h
    rename_i g m
    obtain ⟨rfl, h⟩ := h
    rw [avsEq_eq l m h]
  | .meth t v, b, h => by
    cases b <;> simp [avEq] at h
    rename_i u w
    obtain ⟨rfl, h⟩ := h
    rw [avEq_eq v w h]
  | .iface t v, b, h => by
    cases b <;> simp [avEq] at h
    rename_i u w
    obtain ⟨rfl, h⟩ := h
    rw [avEq_eq v w h]
  | .agg l, b, h => by
    cases b <;> simp [avEq] at h
    rename_i m
    rw [avsEq_eq l m h]
  | .tup l, b, h => by
    cases b <;> simp [avEq] at h
    rename_i m
    rw [avsEq_eq l m h]
  | .top, b, h => by simp [avEq] at h
theorem avsEq_eq : ∀ (l m : List AV), avsEq l m = true → l = m
  | [], m, h => by cases m <;> simp [avsEq] at h; rfl
  | a :: l, m, h => by
    cases m <;> simp [avsEq] at h
    rename_i b m
    rw [avEq_eq a b h.1, avsEq_eq l m h.2]
end

theorem optEq_eq {a b : Option AV} (h : optEq a b = true) : a = b := by
  cases a <;> cases b <;> simp [optEq] at h
  · rfl
  · rw [avEq_eq _ _ h]
theorem tEq_eq : ∀ (a b : T AV), tEq a b = true → a = b
  | .leaf, b, h => by cases b <;> simp [tEq] at h; rfl
  | .node l v r, b, h => by
    cases b <;> simp [tEq] at h
    rename_i l' v' r'
    rw [optEq_eq h.1.1, tEq_eq l l' h.1.2, tEq_eq r r' h.2]
theorem blkEq_eq {a b : Blk} (h : blkEq a b = true) : a = b := by
  unfold blkEq at h
  split at h
  · simp only [Bool.and_eq_true, beq_iff_eq] at h
    obtain ⟨⟨rfl, h1⟩, h2⟩ := h
    rw [avsEq_eq _ _ h1, tEq_eq _ _ h2]
  · simp only [beq_iff_eq] at h
    rw [h]
  · cases h

/-! ### Calm operations -/
section
variable {ρ : Ren} {h : H} {nx : Nat} {w : World} {E : Nat → Option Obj} {n : Nat} {r : R} {a : Act} {k : K}

theorem builtin_calm (hs : HS ρ h nx w.heap E) {b : Builtin} (hb : b = .len ∨ b = .cap ∨ b = .max ∨ b = .min) {ts : Array TypeId} {ty : TypeId} {cts : Array Bool} {args : List AV} {cargs : Array Value} (ha : VRs ρ args cargs.toList)
    (hk : builtinK b ts args P h nx k = true) : QuietRes P (builtin b ts ty cts cargs) ρ h nx w k := by
  unfold builtinK at hk
  split at hk
  · obtain ⟨v, rfl, hv⟩ := VRs_one ha
    obtain ⟨m, hk, hr⟩ := lenA_ok hs (ty := ty) hv hk
    exact retI_act hs hk hr
  · simp at hb
  · obtain ⟨v, rfl, hv⟩ := VRs_one ha
    obtain ⟨m, hk, hr⟩ := capA_ok (ty := ty) hv hk
    exact retI_act hs hk hr
  · simp at hb
  · obtain ⟨vs, hvs, hk⟩ := onSome_true hk
    obtain ⟨v, hv, hk⟩ := onSome_true hk
    have := VRs_toVs ha hvs
    have : cargs = ⟨vs⟩ := Array.ext' this
    subst this
    exact ⟨_, v, hk, run_v (pureRun_run hv w), VR_ofV ρ v⟩
  · obtain ⟨vs, hvs, hk⟩ := onSome_true hk
    obtain ⟨v, hv, hk⟩ := onSome_true hk
    have := VRs_toVs ha hvs
    have : cargs = ⟨vs⟩ := Array.ext' this
    subst this
    exact ⟨_, v, hk, run_v (pureRun_run hv w), VR_ofV ρ v⟩
  · simp at hb
  · simp at hb
  · simp at hb
  · cases hk

theorem exec_calm (s : Sit ρ h nx w E n r a) {o : Oper} (hc : calmOp o.op = true) (hk : exec o.op P r h nx k = true) :
    QuietRes P (execOp a.eval o) ρ h nx w k ∨ MakeRes P (execOp a.eval o) ρ h nx w k := by
  obtain ⟨dst, op, ty, pos, after, g⟩ := o
  cases op with
  | move x => exact .inl (opMove_ok s hk)
  | assign x => exact .inl (opMove_ok s hk)
  | pick c x y => exact .inl (opPick_ok s hk)
  | alloc t => exact .inr (opAlloc_ok s hk)
  | box t x => exact .inr (opBox_ok s hk)
  | build t ps => exact .inl (opBuild_ok s hk)
  | buildSlice t l ps => exact .inr (opBuildSlice_ok s hk)
  | load t x => exact .inl (opLoad_ok s hk)
  | nilCheck x => exact .inl (opNilCheck_ok s hk)
  | binOp op t x y u => exact .inl (opBin_ok (u := u) s hk)
  | unOp op t x => exact .inl (opUn_ok (t := t) s hk)
  | convert t u x => exact opConvert_ok s hk
  | makeInterface t x => exact .inl (opMakeInterface_ok s hk)
  | makeFunc f x y => exact .inl (opMakeFunc_ok s hk)
  | makeMap t x => exact .inr (opMakeMap_ok s hk)
  | makeSlice t l c => exact .inr (opMakeSlice_ok s hk)
  | slice t x lo hi mx => exact .inl (opSlice_ok s hk)
  | fieldAddr t x f => exact .inl (opFieldAddr_ok s hk)
  | field t x f => exact .inl (opField_ok s hk)
  | indexAddr t x i => exact .inl (opIndexAddr_ok s hk)
  | index t x i => exact .inl (opIndex_ok s hk)
  | lookup t x i ok => exact .inl (opLookup_ok s hk)
  | entry x => exact .inl (opEntry_ok s hk)
  | typeAssert x t u ok => exact .inl (opTypeAssert_ok s hk)
  | extract x i => exact .inl (opExtract_ok s hk)
  | call c =>
    have ha := evs_ok' s c.args
    obtain ⟨callee, args, ts⟩ := c
    cases callee with
    | value f => simp [calmOp] at hc
    | invoke f g => simp [calmOp] at hc
    | builtin b =>
      have hk : builtinK b ts (evs h r args.toList) P h nx k = true := hk
      obtain ⟨cts, e⟩ : ∃ cts, execOp a.eval ⟨dst, .call ⟨.builtin b, args, ts⟩, ty, pos, after, g⟩ = builtin b ts ty cts (args.map a.eval) := ⟨_, rfl⟩
      rw [e]
      exact .inl (builtin_calm s.hs (by cases b <;> simp [calmOp] at hc <;> simp) ha hk)
  | _ => simp [calmOp] at hc
end

end Go.Proofs.YtfcoffpmcmhieaaGreatDoor.AI
namespace Go.Proofs.YtfcoffpmcmhieaaGreatDoor.AI
variable {P : Program}

def loI (P : Program) (all : Array Oper) (i : Nat) : Nat := loOf (chainOf P all.toList) ((befL all).getD i 0)
def lastI (P : Program) (all : Array Oper) (i : Nat) : Nat := lastOf (befL all) i (chainOf P all.toList)

structure Stat (P : Program) (all : Array Oper) (gl : List Gap) : Prop where
  back : Back all
  calm : ∀ (i : Nat) (o : Oper), all[i]? = some o → effOp P o = false → calmOp o.op = true ∧ o.dst.isSome = true
  own : ∀ (i : Nat) (o : Oper) (t : Tmp), all[i]? = some o → asgOp o.op = false → o.dst = some t → t ∉ readsT all.toList o
  dst1 : ∀ (i j : Nat) (p o : Oper) (t : Tmp), all[i]? = some p → all[j]? = some o → i ≠ j → p.dst = some t → o.dst ≠ some t
  reads : ∀ (i j : Nat) (p o : Oper) (t : Tmp), all[i]? = some p → all[j]? = some o → i ≠ j → p.dst = some t → t ∈ readsT all.toList o →
    (asgOp p.op = true → befB all i j = true) ∧ (asgOp p.op = false → befB all j i = true)
  tot : ∀ (i j : Nat) (p o : Oper), all[i]? = some p → all[j]? = some o → effOp P o = true → effOp P p = true → i < j → befB all j i = true
  gl_eq : gl = (List.range ((chainOf P all.toList).length + 1)).map (gapOf all.toList (infoOf P all.toList (befL all) (chainOf P all.toList)) (chainOf P all.toList))

theorem gapsOf_stat {all : Array Oper} {gl : List Gap} (h : gapsOf P all = some gl) : Stat P all gl := by
  unfold gapsOf gapsWith at h
  split at h
  · rename_i hs
    simp only [Option.some.injEq] at h
    have hop : ∀ (j : Nat) (o : Oper), all[j]? = some o → operOk P all.toList (befL all) j o = true := fun j o ho => by
      have hlt : j < all.size := (Array.getElem?_eq_some_iff.1 ho).1
      have := List.all_eq_true.1 hs j (List.mem_range.2 (by simpa using hlt))
      rw [Array.getElem?_toList, ho] at this
      exact this
    have hpair : ∀ (i j : Nat) (p o : Oper), all[i]? = some p → all[j]? = some o → i ≠ j → pairOk P all.toList (befL all) j o i p = true := fun i j p o hp ho _ => by
      have h1 := hop j o ho
      unfold operOk at h1
      simp only [Bool.and_eq_true] at h1
      have hlt : i < all.size := (Array.getElem?_eq_some_iff.1 hp).1
      have := List.all_eq_true.1 h1.2 i (List.mem_range.2 (by simpa using hlt))
      rw [Array.getElem?_toList, hp] at this
      exact this
    refine ⟨fun j o ho e he hbe => ?_, fun i o ho he => ?_, fun i o t ho ha hd => ?_, fun i j p o t hp ho hne hd hd' => ?_, fun i j p o t hp ho hne hd ht => ?_, fun i j p o hp ho heo hep hlt => ?_, h.symm⟩
    · have h1 := hop j o ho
      unfold operOk at h1
      simp only [Bool.and_eq_true] at h1
      have := List.all_eq_true.1 h1.1.2 e he
      simpa [hbe, Nat.blt_eq] using this
    · have h1 := hop i o ho
      unfold operOk at h1
      simp only [Bool.and_eq_true] at h1
      simpa [he] using h1.1.1.1
    · have h1 := hop i o ho
      unfold operOk at h1
      simp only [Bool.and_eq_true] at h1
      simpa [ha, hd] using h1.1.1.2
    · have h1 := hpair i j p o hp ho hne
      unfold pairOk at h1
      simp [hd, hne, hd'] at h1
    · have h1 := hpair i j p o hp ho hne
      unfold pairOk at h1
      simp only [hd, hne, Bool.or_eq_true, Bool.and_eq_true, beq_iff_eq, false_or] at h1
      have h2 := h1.1.2
      have ht' : (readsT all.toList o).contains t = true := by simpa using ht
      rw [ht'] at h2
      simp only [Bool.not_true, Bool.false_eq_true, false_or] at h2
      constructor
      · intro ha; rw [ha] at h2; exact h2
      · intro ha; rw [ha] at h2; exact h2
    · have h1 := hpair i j p o hp ho (by omega)
      unfold pairOk at h1
      have hne : ¬ i = j := by omega
      have hb : Nat.blt i j = true := by simpa [Nat.blt_eq] using hlt
      simp only [hne, Bool.or_eq_true, Bool.and_eq_true, beq_iff_eq, false_or, heo, hep, hb, Bool.and_self, Bool.not_true, Bool.false_eq_true] at h1
      exact h1.2
  · cases h

/-! ### The chain -/
theorem isEff_iff {all : Array Oper} {i : Nat} {o : Oper} (ho : all[i]? = some o) : isEff P all.toList i = effOp P o := by
  unfold isEff
  rw [Array.getElem?_toList, ho]

theorem mem_chain {all : Array Oper} {i : Nat} {o : Oper} (ho : all[i]? = some o) : i ∈ chainOf P all.toList ↔ effOp P o = true := by
  have hlt : i < all.size := (Array.getElem?_eq_some_iff.1 ho).1
  unfold chainOf
  rw [List.mem_filter, isEff_iff ho, List.mem_range]
  simp [hlt]
theorem chain_get {all : Array Oper} {k c : Nat} (h : (chainOf P all.toList)[k]? = some c) : ∃ o, all[c]? = some o ∧ effOp P o = true := by
  have hm := List.mem_of_getElem? h
  have : c < all.size := by
    unfold chainOf at hm
    have := (List.mem_filter.1 hm).1
    simpa using this
  exact ⟨all[c], Array.getElem?_eq_getElem this, (mem_chain (Array.getElem?_eq_getElem this)).1 hm⟩

theorem chain_lt {all : Array Oper} {k k' c c' : Nat} (h : (chainOf P all.toList)[k]? = some c) (h' : (chainOf P all.toList)[k']? = some c') (hk : k < k') : c < c' := by
  have hp : (chainOf P all.toList).Pairwise (· < ·) := by
    unfold chainOf
    exact List.Pairwise.filter _ (List.pairwise_lt_range)
  obtain ⟨h1, rfl⟩ := List.getElem?_eq_some_iff.1 h
  obtain ⟨h2, rfl⟩ := List.getElem?_eq_some_iff.1 h'
  exact List.pairwise_iff_getElem.1 hp k k' h1 h2 hk

theorem Stat.chain_bef {all : Array Oper} {gl : List Gap} (st : Stat P all gl) {k k' c c' : Nat} (h : (chainOf P all.toList)[k]? = some c) (h' : (chainOf P all.toList)[k']? = some c') (hk : k < k') : befB all c' c = true := by
  obtain ⟨o, ho, he⟩ := chain_get h
  obtain ⟨o', ho', he'⟩ := chain_get h'
  exact st.tot c c' o o' ho ho' he' he (chain_lt h h' hk)

theorem filter_le {p : Nat → Bool} : ∀ (l : List Nat) (g : Nat), (∀ (k c : Nat), l[k]? = some c → p c = true → k < g) → (l.filter p).length ≤ g
  | [], _, _ => by simp
  | c :: l, g, h => by
    cases g with
    | zero =>
      have hn : ∀ x ∈ c :: l, ¬ p x = true := fun x hx hp => by
        obtain ⟨k, hk⟩ := List.mem_iff_getElem?.1 hx
        have := h k x hk hp; omega
      rw [List.filter_eq_nil_iff.2 hn]; simp
    | succ g =>
      have ih := filter_le l g fun k x hk hp => by have := h (k + 1) x (by simpa using hk) hp; omega
      rw [List.filter_cons]
      split <;> simp <;> omega

theorem loI_le {all : Array Oper} {i g : Nat} (h : ∀ (k c : Nat), (chainOf P all.toList)[k]? = some c → befB all i c = true → k < g) : loI P all i ≤ g := filter_le _ _ h

theorem lastOf_ge {bef : List Nat} {i : Nat} : ∀ (l : List Nat) (g : Nat), g ≤ l.length → (∀ (k c : Nat), k < g → l[k]? = some c → (bef.getD c 0).testBit i = false) → g ≤ lastOf bef i l
  | [], g, hg, _ => by simpa [lastOf] using hg
  | c :: l, g, hg, h => by
    cases g with
    | zero => omega
    | succ g =>
      have h0 := h 0 c (by omega) rfl
      have ih := lastOf_ge (bef := bef) (i := i) l g (by simpa using hg) fun k x hk hx => h (k + 1) x (by omega) (by simpa using hx)
      unfold lastOf
      rw [h0]
      simp
      exact ih
theorem lastOf_le {bef : List Nat} {i : Nat} : ∀ l : List Nat, lastOf bef i l ≤ l.length
  | [] => by simp [lastOf]
  | c :: l => by
    have := lastOf_le (bef := bef) (i := i) l
    unfold lastOf
    split <;> simp <;> omega
theorem lastOf_at {bef : List Nat} {i : Nat} : ∀ (l : List Nat) (c : Nat), l[lastOf bef i l]? = some c → (bef.getD c 0).testBit i = true
  | [], c, h => by simp at h
  | e :: l, c, h => by
    unfold lastOf at h
    split at h
    · rename_i he; simp at h; subst h; exact he
    · exact lastOf_at l c (by simpa using h)

theorem lastI_ge {all : Array Oper} {i g : Nat} (hg : g ≤ (chainOf P all.toList).length) (h : ∀ (k c : Nat), k < g → (chainOf P all.toList)[k]? = some c → befB all c i = false) : g ≤ lastI P all i := lastOf_ge _ _ hg h
theorem lastI_le {all : Array Oper} {i : Nat} : lastI P all i ≤ (chainOf P all.toList).length := lastOf_le _
theorem lastI_at {all : Array Oper} {i c : Nat} (h : (chainOf P all.toList)[lastI P all i]? = some c) : befB all c i = true := lastOf_at _ _ h

/-! ### The gaps -/
theorem mem_info {all : Array Oper} {o : Oper} {lo last : Nat} : (o, lo, last) ∈ infoOf P all.toList (befL all) (chainOf P all.toList) ↔
    ∃ i : Nat, all[i]? = some o ∧ effOp P o = false ∧ lo = loI P all i ∧ last = lastI P all i := by
  unfold infoOf
  rw [List.mem_filterMap]
  constructor
  · rintro ⟨i, hi, h⟩
    split at h
    · cases h
    · rename_i he
      obtain ⟨o', ho', h⟩ := Option.map_eq_some_iff.1 h
      rw [Array.getElem?_toList] at ho'
      simp only [Prod.mk.injEq] at h
      obtain ⟨rfl, rfl, rfl⟩ := h
      rw [isEff_iff ho'] at he
      exact ⟨i, ho', by simpa using he, rfl, rfl⟩
  · rintro ⟨i, ho, he, rfl, rfl⟩
    have hlt : i < all.size := (Array.getElem?_eq_some_iff.1 ho).1
    refine ⟨i, List.mem_range.2 (by simpa using hlt), ?_⟩
    rw [isEff_iff ho, he, Array.getElem?_toList, ho]
    rfl

theorem Stat.gap {all : Array Oper} {gl : List Gap} (st : Stat P all gl) {g : Nat} {gap : Gap} (h : gl[g]? = some gap) :
    g ≤ (chainOf P all.toList).length ∧
    (∀ o, o ∈ gap.first ↔ ∃ i : Nat, all[i]? = some o ∧ effOp P o = false ∧ loI P all i = g) ∧
    (∀ o, o ∈ gap.live ↔ ∃ i : Nat, all[i]? = some o ∧ effOp P o = false ∧ loI P all i ≤ g ∧ g ≤ lastI P all i) ∧
    (∀ o, o ∈ gap.lay ↔ ∃ i : Nat, all[i]? = some o ∧ effOp P o = false ∧ lastI P all i = g ∧ asgOp o.op = true) ∧
    gap.eff = ((chainOf P all.toList)[g]?).bind fun i => all[i]? := by
  rw [st.gl_eq, List.getElem?_map, Option.map_eq_some_iff] at h
  obtain ⟨g', hg', rfl⟩ := h
  have hlt := (List.getElem?_eq_some_iff.1 hg').1
  rw [List.length_range] at hlt
  rw [List.getElem?_range hlt] at hg'
  cases hg'
  refine ⟨by omega, fun o => ?_, fun o => ?_, fun o => ?_, ?_⟩
  · simp only [gapOf, List.mem_filterMap]
    constructor
    · rintro ⟨⟨o', lo, last⟩, hm, h⟩
      obtain ⟨i, ho, he, rfl, rfl⟩ := mem_info.1 hm
      simp only at h
      split at h
      · rename_i hb
        cases h
        exact ⟨i, ho, he, by simpa using hb⟩
      · cases h
    · rintro ⟨i, ho, he, h⟩
      refine ⟨(o, loI P all i, lastI P all i), mem_info.2 ⟨i, ho, he, rfl, rfl⟩, ?_⟩
      have : Nat.beq (loI P all i) g = true := by simpa using h
      simp only [this, if_true]
  · simp only [gapOf, List.mem_filterMap]
    constructor
    · rintro ⟨⟨o', lo, last⟩, hm, h⟩
      obtain ⟨i, ho, he, rfl, rfl⟩ := mem_info.1 hm
      simp only at h
      split at h
      · rename_i hb
        cases h
        simp only [Bool.and_eq_true, Nat.ble_eq] at hb
        exact ⟨i, ho, he, hb.1, hb.2⟩
      · cases h
    · rintro ⟨i, ho, he, h1, h2⟩
      refine ⟨(o, loI P all i, lastI P all i), mem_info.2 ⟨i, ho, he, rfl, rfl⟩, ?_⟩
      have : (Nat.ble (loI P all i) g && Nat.ble g (lastI P all i)) = true := by simp [Nat.ble_eq, h1, h2]
      simp only [this, if_true]
  · simp only [gapOf, List.mem_filterMap]
    constructor
    · rintro ⟨⟨o', lo, last⟩, hm, h⟩
      obtain ⟨i, ho, he, rfl, rfl⟩ := mem_info.1 hm
      simp only at h
      split at h
      · rename_i hb
        cases h
        simp only [Bool.and_eq_true] at hb
        exact ⟨i, ho, he, by simpa using hb.1, hb.2⟩
      · cases h
    · rintro ⟨i, ho, he, h1, h2⟩
      refine ⟨(o, loI P all i, lastI P all i), mem_info.2 ⟨i, ho, he, rfl, rfl⟩, ?_⟩
      have : (Nat.beq (lastI P all i) g && asgOp o.op) = true := by simp [h1, h2]
      simp only [this, if_true]
  · simp only [gapOf]
    cases (chainOf P all.toList)[g]? with
    | none => rfl
    | some c => simp

theorem Stat.len {all : Array Oper} {gl : List Gap} (st : Stat P all gl) : gl.length = (chainOf P all.toList).length + 1 := by rw [st.gl_eq]; simp

end Go.Proofs.YtfcoffpmcmhieaaGreatDoor.AI
namespace Go.Proofs.YtfcoffpmcmhieaaGreatDoor.AI
variable {P : Program}

theorem ite_true' {b : Bool} {x y : Bool} (h : (if b = true then x else y) = true) : (b = true ∧ x = true) ∨ (b = false ∧ y = true) := by
  cases b
  · exact .inr ⟨rfl, h⟩
  · exact .inl ⟨rfl, h⟩

/-- A block for which nothing lies there yet. -/
theorem HS.ghost {ρ : Ren} {h : H} {nx : Nat} {hp : Array Obj} {E : Nat → Option Obj} (s : HS ρ h nx hp E) (hn : nx < 3583) (b : Blk) : HS ρ (h.set nx b) (nx + 1) hp E := by
  have hf := s.fresh
  have hne : ∀ i L, ρ i = some L → i ≠ nx := fun i L hi e => by subst e; rw [hf] at hi; cases hi
  refine ⟨fun i L hi => by have := s.dom i L hi; omega, by omega, s.glob, by have := s.nx_ge; omega, fun i L hL hi => ?_, fun i j Li Lj hi hj hij hLi hLj => ?_, fun b' o hb' => ?_, fun g hg hd => ?_⟩
  · rw [H.get_set_ne _ _ (by omega) (hne i L hL)] at hi ⊢
    obtain ⟨hB, hlt⟩ := s.live i L hL hi
    refine ⟨hB.other rfl fun m ver left cur Lm l v _ hm hg => ?_, hlt⟩
    rw [H.get_set_ne _ _ (by omega) (hne m Lm hm)] at hg
    exact ⟨⟨l, hg⟩, rfl⟩
  · rw [H.get_set_ne _ _ (by omega) (hne i Li hLi)] at hi
    rw [H.get_set_ne _ _ (by omega) (hne j Lj hLj)] at hj
    exact s.inj i j Li Lj hi hj hij hLi hLj
  · obtain ⟨h1, h2⟩ := s.ext b' o hb'
    refine ⟨h1, fun i L hi hL => h2 i L ?_ hL⟩
    rwa [H.get_set_ne _ _ (by omega) (hne i L hL)] at hi
  · have := s.nx_ge
    rw [H.get_set_ne _ _ (by omega) (by omega)] at hd
    exact s.glive g hg hd

/-- What was reckoned is there now. -/
theorem HS.born {ρ : Ren} {h : H} {nx : Nat} {hp : Array Obj} {E : Nat → Option Obj} (s : HS ρ h nx hp E) {id : Nat} (hid : id < nx) (h8 : 8 ≤ id) (hf : ρ id = none) {o : Obj} {L : Loc} (hL : L.blk = hp.size)
    (hb : BR ρ h (h.get id) L (hp.push o)) : HS (ρ.put id L) h nx (hp.push o) E := by
  have hold : ∀ j, j < hp.size → (hp.push o)[j]? = hp[j]? := fun j hj => by simp [Array.getElem?_push, Nat.ne_of_lt hj]
  have hmap : ∀ (m ver : Nat) (left : List Nat) (cur : Option Nat) (b : Blk) (K : Loc), b = .iter m ver left cur → BR ρ h b K hp → ∃ Lm, ρ m = some Lm := fun m ver left cur b K hb hB => by
    subst hb
    obtain ⟨Lm, _, _, _, _, h1, _⟩ := hB
    exact ⟨Lm, h1⟩
  refine ⟨fun i K hi => ?_, s.nx_le, fun g K hg hi => ?_, s.nx_ge, fun i K hK hi => ?_, fun i j Li Lj hi hj hij hLi hLj => ?_, fun b' o' hb' => ?_, fun g hg hd => ?_⟩
  · by_cases e : i = id
    · omega
    · rw [Ren.put_ne _ _ e] at hi; exact s.dom i K hi
  · rw [Ren.put_ne _ _ (by omega)] at hi; exact s.glob g K hg hi
  · by_cases e : i = id
    · subst e
      rw [Ren.put_same] at hK; cases hK
      exact ⟨BR.mono (Ren.le_put L hf) hb, by rw [hL]; simp⟩
    · rw [Ren.put_ne _ _ e] at hK
      obtain ⟨hB, hlt⟩ := s.live i K hK hi
      refine ⟨(BR.mono (Ren.le_put L hf) hB).other (hold _ hlt) fun m ver left cur Lm l v hbe hm hg => ?_, by simp; omega⟩
      obtain ⟨Lm', hLm'⟩ := hmap m ver left cur _ K hbe hB
      have : Lm' = Lm := by have := Ren.le_put L hf m Lm' hLm'; rw [hm] at this; cases this; rfl
      subst this
      obtain ⟨_, hlt'⟩ := s.live m Lm' hLm' (by rw [hg]; simp)
      exact ⟨⟨l, hg⟩, hold _ hlt'⟩
  · by_cases ei : i = id
    · subst ei
      rw [Ren.put_same] at hLi; cases hLi
      rw [Ren.put_ne _ _ (Ne.symm hij)] at hLj
      obtain ⟨_, hlt⟩ := s.live j Lj hLj hj
      omega
    · rw [Ren.put_ne _ _ ei] at hLi
      obtain ⟨_, hlt⟩ := s.live i Li hLi hi
      by_cases ej : j = id
      · subst ej
        rw [Ren.put_same] at hLj; cases hLj
        omega
      · rw [Ren.put_ne _ _ ej] at hLj
        exact s.inj i j Li Lj hi hj hij hLi hLj
  · obtain ⟨h1, h2⟩ := s.ext b' o' hb'
    have hlt : b' < hp.size := (Array.getElem?_eq_some_iff.1 h1).1
    refine ⟨by rw [hold _ hlt]; exact h1, fun i K hi hK => ?_⟩
    by_cases e : i = id
    · subst e; rw [Ren.put_same] at hK; cases hK; omega
    · rw [Ren.put_ne _ _ e] at hK; exact h2 i K hi hK
  · obtain ⟨K, hK⟩ := s.glive g hg hd
    exact ⟨K, by rw [Ren.put_ne _ _ (by omega)]; exact hK⟩

/-! ### A calm operation goes on -/
section
theorem onSome_no {α : Type} (o : Option α) : onSome o (fun _ => false) = false := by cases o <;> rfl
theorem onTrue_no (b : Bool) : onTrue b false = false := by cases b <;> rfl
theorem forceN_no (n : Nat) : forceN n (fun _ => false) = false := by rw [forceN_eq]
theorem onNat_no (n : Int) : onNat n (fun _ => false) = false := by cases n <;> rfl
theorem onInt_no (a : AV) : a.onInt (fun _ _ => false) = false := by cases a <;> rfl
theorem onBool_no (a : AV) : a.onBool (fun _ => false) = false := by cases a <;> rfl
theorem onPtr_no (a : AV) : a.onPtr (fun _ _ => false) = false := by cases a <;> rfl
theorem onSlice_no (a : AV) : a.onSlice (fun _ _ _ _ _ _ => false) = false := by cases a <;> rfl
theorem onIntOr_no (a : AV) : a.onIntOr (fun _ _ => false) false = false := by cases a <;> rfl
theorem onCells_no (b : Blk) : b.onCells (fun _ _ _ => false) = false := by cases b <;> rfl
theorem onMap_no (h : H) (b : Nat) : onMap h b (fun _ _ => false) = false := by unfold onMap; split <;> rfl
theorem newB_no (v : AV) (b : Blk) (h : H) (nx : Nat) : newB v b h nx (fun _ => false) = false := by
  unfold newB
  rw [H.setK_eq]
  unfold newN
  rw [forceN_eq]
  exact onTrue_no _
theorem cellAt_no (n : Nat) (t : T AV) (z : List AV) (o : Nat) : cellAt n t z o (fun _ => false) = false := by
  cases h : cellAt n t z o fun _ => false
  · rfl
  · obtain ⟨_, _, _, h⟩ := cellAt_true h; cases h
theorem cellsAt_no (n : Nat) (t : T AV) (z : List AV) (o m : Nat) : cellsAt n t z o m (fun _ => false) = false := by
  cases h : cellsAt n t z o m fun _ => false
  · rfl
  · obtain ⟨_, _, _, _, h⟩ := cellsAt_true h; cases h
theorem wrapK_no (kd : IntKind) (n : Int) : wrapK kd n (fun _ => false) = false := by
  cases h : wrapK kd n fun _ => false
  · rfl
  · have := wrapK_true h; cases this
theorem nthK_no (l : List AV) (i : Nat) : nthK l i (fun _ => false) = false := onSome_no _
theorem partK_no (P : Program) (t : TypeId) (l : List AV) (o : Nat) : partK P t l o (fun _ => false) = false := by
  unfold partK
  split
  · exact nthK_no _ _
  · exact onTrue_no _
  · rfl
theorem boundK_no (h : H) (r : R) (x : Option Operand) (d : Nat) : boundK h r x d (fun _ => false) = false := by
  unfold boundK
  split
  · rfl
  · simp only [forceN_no, onNat_no, onInt_no]
theorem loadK_no (P : Program) (h : H) (t : TypeId) (b o : Nat) : loadK P h t b o (fun _ => false) = false := by
  unfold loadK
  cases tyk P t
  · show (h.get b).onCells (cellAt1 o fun _ => false) = false
    have : (cellAt1 o fun _ => false) = fun _ _ _ => false := by funext n t z; exact cellAt_no n t z o
    rw [this]; exact onCells_no _
  · rename_i m
    show ((h.get b).onCells fun n t z => cellsAt n t z o m fun l => false) = false
    simp only [cellsAt_no, onCells_no]
  · rfl

theorem onSome_no' {α : Type} {o : Option α} {k : α → Bool} (hk : ∀ a, k a = false) : onSome o k = false := by rw [show k = fun _ => false from funext hk]; exact onSome_no o
theorem onNat_no' {n : Int} {k : Nat → Bool} (hk : ∀ a, k a = false) : onNat n k = false := by rw [show k = fun _ => false from funext hk]; exact onNat_no n
theorem onInt_no' {a : AV} {k : IntKind → Int → Bool} (hk : ∀ x y, k x y = false) : a.onInt k = false := by rw [show k = fun _ _ => false from funext fun x => funext fun y => hk x y]; exact onInt_no a
theorem onPtr_no' {a : AV} {k : Nat → Nat → Bool} (hk : ∀ x y, k x y = false) : a.onPtr k = false := by rw [show k = fun _ _ => false from funext fun x => funext fun y => hk x y]; exact onPtr_no a
theorem onMap_no' {h : H} {b : Nat} {k : List (AV × AV) → Nat → Bool} (hk : ∀ x y, k x y = false) : onMap h b k = false := by rw [show k = fun _ _ => false from funext fun x => funext fun y => hk x y]; exact onMap_no h b

variable {r : R} {h : H} {nx : Nat}

theorem exec_no {op : Op} (hc : calmOp op = true) : exec op P r h nx (fun _ => false) = false := by
  cases op with
  | move x => rfl
  | assign x => rfl
  | pick c x y =>
    show (ev h r c).onBool (pick2 x y r h nx fun _ => false) = false
    exact onBool_no _
  | alloc t =>
    show onSome (zeroCellsOf P t) (alloc2 h nx fun _ => false) = false
    have : (alloc2 h nx fun _ => false) = fun _ => false := by funext z; unfold alloc2; rw [newB_no, onTrue_no]
    rw [this, onSome_no]
  | box t x =>
    show box2 (ev h r x).cells h nx (fun _ => false) = false
    unfold box2; rw [newB_no, onTrue_no]
  | build t ps => show opBuild t ps P r h nx (fun _ => false) = false; unfold opBuild; simp only [onSome_no, onTrue_no]
  | buildSlice t l ps => show opBuildSlice t l ps P r h nx (fun _ => false) = false; unfold opBuildSlice; simp only [newB_no, onSome_no, onTrue_no]
  | load t x =>
    show (ev h r x).onPtr (load2 P h t (retV h nx fun _ => false)) = false
    have : (load2 P h t (retV h nx fun _ => false)) = fun _ _ => false := by funext b o; exact loadK_no P h t b o
    rw [this, onPtr_no]
  | nilCheck x => show opNilCheck x P r h nx (fun _ => false) = false; unfold opNilCheck; split <;> rfl
  | binOp op t x y u =>
    have es : ∀ op, binSlow op t x y P r h nx (fun _ => false) = false := fun op => by unfold binSlow; simp only [onSome_no]
    have eq : ∀ op b, binEq op b t x y P r h nx (fun _ => false) = false := fun op b => by unfold binEq; split <;> first | rfl | exact es _
    have ea : ∀ f op, arith f op t x y P r h nx (fun _ => false) = false := fun f op => by
      unfold arith
      rw [es]
      have : arith1 f (ev h r y) h nx (fun _ => false) = fun _ _ => false := by
        funext ka a
        unfold arith1
        have : arith2 f h nx (fun _ => false) ka a = fun _ _ => false := by
          funext kb b
          unfold arith2
          have : (retI ka h nx fun _ => false) = fun _ => false := rfl
          rw [this, wrapK_no, onTrue_no]
        rw [this, onInt_no]
      rw [this, onIntOr_no]
    have ec1 : ∀ f, comp1 f (ev h r y) h nx (fun _ => false) = fun _ _ => false := fun f => by
      funext ka a
      unfold comp1
      have : comp2 f h nx (fun _ => false) ka a = fun _ _ => false := by funext kb b; unfold comp2; rw [onTrue_no]
      rw [this, onInt_no]
    have ec : ∀ f op, comp f op t x y P r h nx (fun _ => false) = false := fun f op => by unfold comp; rw [es, ec1, onIntOr_no]
    have ee : ∀ f op b, compE f op b t x y P r h nx (fun _ => false) = false := fun f op b => by unfold compE; rw [eq, ec1, onIntOr_no]
    cases op <;> first | exact ea _ _ | exact es _ | exact ec _ _ | exact ee _ _ _
  | unOp op t x => show opUn op t x P r h nx (fun _ => false) = false; unfold opUn; simp only [onSome_no]
  | convert t u x =>
    show opConvert t u x P r h nx (fun _ => false) = false
    unfold opConvert
    split
    · cases isByteSlice P u
      · simp only [onSome_no]
      · simp only [newB_no, onTrue_no, onSome_no]
    · simp only [onSome_no, cellsAt_no, onCells_no, onTrue_no]
    · exact onTrue_no _
    · simp only [onSome_no]
  | makeInterface t x => show opMakeInterface t x P r h nx (fun _ => false) = false; unfold opMakeInterface; split <;> rfl
  | makeFunc f x y => show opMakeFunc f x y P r h nx (fun _ => false) = false; unfold opMakeFunc; split <;> first | rfl | (split <;> first | rfl | exact onTrue_no _)
  | makeMap t x =>
    show opMakeMap t x P r h nx (fun _ => false) = false
    unfold opMakeMap
    split
    · exact newB_no _ _ _ _
    · simp only [newB_no, onSome_no, onInt_no]
  | makeSlice t x y => show opMakeSlice t x y P r h nx (fun _ => false) = false; unfold opMakeSlice; simp only [newB_no, forceN_no, onTrue_no, onSome_no, onNat_no, onInt_no]
  | slice t x lo hi mx =>
    show opSlice t x lo hi mx P r h nx (fun _ => false) = false
    unfold opSlice
    split
    · simp only [onTrue_no, boundK_no]
    · cases mx with
      | none => simp only [forceN_no, onTrue_no, boundK_no, onSome_no]
      | some m => simp only [forceN_no, onTrue_no, onNat_no, onInt_no, boundK_no, onSome_no]
    · simp only [onTrue_no, boundK_no, onSome_no]
    · simp only [onTrue_no, onCells_no, boundK_no, onSome_no]
    · rfl
  | fieldAddr t x f =>
    show onSome (fld P t f) (fieldAddr1 (ev h r x) h nx fun _ => false) = false
    have : (fieldAddr1 (ev h r x) h nx fun _ => false) = fun _ => false := by
      funext p
      unfold fieldAddr1
      have : (fieldAddr2 p.1 h nx fun _ => false) = fun _ _ => false := by funext b o; unfold fieldAddr2; exact forceN_eq _ _
      rw [this, onPtr_no, onTrue_no]
    rw [this, onSome_no]
  | field t x f =>
    show opField t x f P r h nx (fun _ => false) = false
    unfold opField
    split
    · simp only [partK_no, onSome_no]
    · rfl
  | indexAddr t x i =>
    show (ev h r i).onInt (index0 P t (ev h r x) h nx fun _ => false) = false
    have hsl : ∀ (j : Nat) (e : TypeId × Nat × Nat), indexSl (ev h r x) h nx (fun _ => false) j e = false := fun j e => by
      unfold indexSl
      have : indexSl2 e.2.1 h nx (fun _ => false) j = fun _ _ _ _ _ _ => false := by
        funext b o len cap ex sz
        unfold indexSl2
        rw [forceN_eq]
        show onTrue _ (onTrue _ false) = false
        rw [onTrue_no, onTrue_no]
      rw [this, onSlice_no]
    have har : ∀ j : Nat, indexArr P t (ev h r x) h nx (fun _ => false) j = false := fun j => by
      unfold indexArr
      have : ∀ b : Nat, retP b h nx (fun _ => false) = fun _ => false := fun b => rfl
      simp only [this, forceN_no, onTrue_no, onPtr_no, onSome_no]
    have : (index0 P t (ev h r x) h nx fun _ => false) = fun _ _ => false := by
      funext kd i
      unfold index0
      have : (index1 P t (ev h r x) h nx fun _ => false) = fun _ => false := by
        funext j
        unfold index1
        cases sliceElem P t with
        | none => exact har j
        | some e => exact hsl j e
      rw [this, onNat_no]
    rw [this, onInt_no]
  | index t x i =>
    show opIndex t x i P r h nx (fun _ => false) = false
    unfold opIndex
    refine onInt_no' fun _ _ => onNat_no' fun j => ?_
    split
    · simp only [onSome_no, onTrue_no]
    · simp only [partK_no, onTrue_no, onSome_no]
    · rfl
  | lookup t x i ok =>
    show opLookup t x i ok P r h nx (fun _ => false) = false
    unfold opLookup
    have e1 : ∀ v b, lookOut ok h nx (fun _ => false) v b = false := fun v b => rfl
    refine onSome_no' fun ke => onSome_no' fun z => ?_
    split
    · simp only [e1, onSome_no]
    · refine onMap_no' fun l _ => onSome_no' fun f => ?_
      cases f with
      | none => rfl
      | some j => simp only [e1, onSome_no]
    · rfl
  | entry x =>
    show opEntry x P r h nx (fun _ => false) = false
    unfold opEntry
    refine onPtr_no' fun b o => ?_
    have : ∀ q : Bool, q = false → onTrue (o == 0) q = false := fun q hq => by rw [hq]; exact onTrue_no _
    refine this _ ?_
    split
    · simp only [onSome_no, onTrue_no, onMap_no]
    · rfl
  | typeAssert x t u ok =>
    show opTypeAssert x t u ok P r h nx (fun _ => false) = false
    unfold opTypeAssert
    split
    · rfl
    · rfl
    · split
      · simp only [onSome_no, onTrue_no]
      · split
        · rfl
        · simp only [onSome_no, onTrue_no]
      · rfl
  | extract x i =>
    show opExtract x i P r h nx (fun _ => false) = false
    unfold opExtract
    split
    · simp only [onSome_no]
    · rfl
  | call c =>
    obtain ⟨callee, args, ts⟩ := c
    cases callee with
    | value f => simp [calmOp] at hc
    | invoke f g => simp [calmOp] at hc
    | builtin b =>
      show builtinK b ts (evs h r args.toList) P h nx (fun _ => false) = false
      generalize evs h r args.toList = l
      have e1 : ∀ ka, (retI ka h nx fun _ => false) = fun _ => false := fun ka => rfl
      have hlen : ∀ x, lenA P ts x h (fun _ => false) = false := fun x => by
        unfold lenA
        refine onSome_no' fun t => ?_
        split
        · split <;> rfl
        · rfl
        · simp only [onSome_no]
        · split <;> rfl
        · split
          · rfl
          · simp only [onMap_no]
          · rfl
        · rfl
      have hcap : ∀ x, capA P ts x (fun _ => false) = false := fun x => by
        unfold capA
        refine onSome_no' fun t => onSome_no' fun e => ?_
        split <;> rfl
      unfold builtinK
      split
      · rw [e1]; exact hlen _
      · simp [calmOp] at hc
      · rw [e1]; exact hcap _
      · simp [calmOp] at hc
      · simp only [onSome_no]
      · simp only [onSome_no]
      · simp [calmOp] at hc
      · simp [calmOp] at hc
      · simp [calmOp] at hc
      · rfl
  | _ => simp [calmOp] at hc

theorem exec_some {op : Op} {k : K} {Q : Prop} (hc : calmOp op = true) (hq : ∀ out, k out = true → Q) (hk : exec op P r h nx k = true) : Q := by
  by_cases hx : ∃ out, k out = true
  · obtain ⟨out, ho⟩ := hx; exact hq out ho
  · have : k = fun _ => false := by
      funext out
      cases ho : k out
      · rfl
      · exact absurd ⟨out, ho⟩ hx
    rw [this, exec_no hc] at hk
    cases hk
end

/-! ### The first reckonings -/
structure FirstR (l : List Oper) (n : Nat) (r : R) (h : H) (nx : Nat) (r' : R) (h' : H) (nx' : Nat) (asgN : List (Tmp × AV)) (mksN : List (Tmp × Nat)) : Prop where
  le : nx ≤ nx'
  regs : ∀ t : Nat, (∀ o ∈ l, asgOp o.op = false → o.dst ≠ some t) → r'.get t = r.get t
  dst : ∀ o ∈ l, ∃ d : Nat, o.dst = some d ∧ d < n
  ghost : ∀ (ρ : Ren) (hp : Array Obj) (E : Nat → Option Obj), HS ρ h nx hp E → HS ρ h' nx' hp E
  asg : ∀ p ∈ asgN, ∃ o ∈ l, asgOp o.op = true ∧ o.dst = some p.1
  mks : ∀ p ∈ mksN, nx ≤ p.2 ∧ p.2 < nx' ∧ ∃ o ∈ l, asgOp o.op = false ∧ o.dst = some p.1

theorem firstK_true {all : Array Oper} {n : Nat} (hn : n ≤ 448) : ∀ {l : List Oper} {r : R} {h : H} {nx : Nat} {asg : List (Tmp × AV)} {mks : List (Tmp × Nat)} {k : R → H → Nat → List (Tmp × AV) → List (Tmp × Nat) → Bool},
    (∀ o ∈ l, calmOp o.op = true) → firstK P all n l r h nx asg mks k = true → ∃ r' h' nx' asgN mksN, k r' h' nx' (asgN ++ asg) (mksN ++ mks) = true ∧ FirstR l n r h nx r' h' nx' asgN mksN := by
  intro l
  induction l with
  | nil => intro r h nx asg mks k _ hk; exact ⟨r, h, nx, [], [], hk, Nat.le_refl _, fun _ _ => rfl, fun _ h => (by cases h), fun _ _ _ h => h, fun _ h => (by cases h), fun _ h => (by cases h)⟩
  | cons o l ih =>
    intro r h nx asg mks k hc hk
    have ih : ∀ {r : R} {h : H} {nx : Nat} {asg : List (Tmp × AV)} {mks : List (Tmp × Nat)} {k : R → H → Nat → List (Tmp × AV) → List (Tmp × Nat) → Bool}, firstK P all n l r h nx asg mks k = true → _ := fun hk => ih (fun q hq => hc q (by simp [hq])) hk
    obtain ⟨wn, hw, hk⟩ := onSome_true (show onSome (wantedA all r o) _ = true from hk)
    obtain ⟨d, hd, hk⟩ := onSome_true hk
    obtain ⟨hlt, hk⟩ := onTrue_true hk
    have hlt : @LT.lt Nat instLTNat d n := by simpa [Nat.blt_eq] using hlt
    -- the register is laid, the heap stays
    have plain : ∀ (v : AV), asgOp o.op = false → firstK P all n l (r.set d v) h nx asg mks k = true →
        ∃ r' h' nx' asgN mksN, k r' h' nx' (asgN ++ asg) (mksN ++ mks) = true ∧ FirstR (o :: l) n r h nx r' h' nx' asgN mksN := by
      intro v ha hk
      obtain ⟨r', h', nx', asgN, mksN, g, f⟩ := ih hk
      refine ⟨r', h', nx', asgN, mksN, g, f.le, fun t ht => ?_, fun p hp => ?_, f.ghost, fun p hp => ?_, fun p hp => ?_⟩
      · rw [f.regs t fun p hp => ht p (by simp [hp])]
        refine R.get_set_ne _ _ (by omega) fun e => ?_
        subst e
        exact ht o (by simp) ha hd
      · rcases List.mem_cons.1 hp with rfl | hp
        · exact ⟨d, hd, hlt⟩
        · exact f.dst p hp
      · obtain ⟨q, hq, h1⟩ := f.asg p hp; exact ⟨q, by simp [hq], h1⟩
      · obtain ⟨h0, h00, q, hq, h1⟩ := f.mks p hp; exact ⟨h0, h00, q, by simp [hq], h1⟩
    have late : ∀ (v : AV), asgOp o.op = true → firstK P all n l r h nx ((d, v) :: asg) mks k = true →
        ∃ r' h' nx' asgN mksN, k r' h' nx' (asgN ++ asg) (mksN ++ mks) = true ∧ FirstR (o :: l) n r h nx r' h' nx' asgN mksN := by
      intro v ha hk
      obtain ⟨r', h', nx', asgN, mksN, g, f⟩ := ih hk
      refine ⟨r', h', nx', asgN ++ [(d, v)], mksN, by simpa using g, f.le, fun t ht => ?_, fun p hp => ?_, f.ghost, fun p hp => ?_, fun p hp => ?_⟩
      · exact f.regs t fun p hp => ht p (by simp [hp])
      · rcases List.mem_cons.1 hp with rfl | hp
        · exact ⟨d, hd, hlt⟩
        · exact f.dst p hp
      · rcases List.mem_append.1 hp with hp | hp
        · obtain ⟨q, hq, h1⟩ := f.asg p hp; exact ⟨q, by simp [hq], h1⟩
        · simp only [List.mem_singleton] at hp; subst hp; exact ⟨o, by simp, ha, hd⟩
      · obtain ⟨h0, h00, q, hq, h1⟩ := f.mks p hp; exact ⟨h0, h00, q, by simp [hq], h1⟩
    rcases ite_true' hk with ⟨_, hk⟩ | ⟨_, hk⟩
    · -- it runs: whatever comes of it
      have key : ∀ (v : AV) (h1 : H) (nx1 : Nat), (if asgOp o.op = true then firstK P all n l r h nx ((d, v) :: asg) mks k
          else if Nat.beq nx1 nx = true then r.setK d v fun r => firstK P all n l r h nx asg mks k
          else onTrue (Nat.blt nx 3583) (h.setK nx (h1.get nx) fun h => forceN (nx + 1) fun nx1 => r.setK d v fun r => firstK P all n l r h nx1 asg ((d, nx) :: mks) k)) = true →
          ∃ r' h' nx' asgN mksN, k r' h' nx' (asgN ++ asg) (mksN ++ mks) = true ∧ FirstR (o :: l) n r h nx r' h' nx' asgN mksN := by
        intro v h1 nx1 hk
        rcases ite_true' hk with ⟨ha, hk⟩ | ⟨ha, hk⟩
        · exact late v ha hk
        · rcases ite_true' hk with ⟨_, hk⟩ | ⟨_, hk⟩
          · rw [R.setK_eq] at hk
            exact plain v ha hk
          · obtain ⟨hnx, hk⟩ := onTrue_true hk
            have hnx : nx < 3583 := by simpa [Nat.blt_eq] using hnx
            rw [H.setK_eq, forceN_eq, R.setK_eq] at hk
            obtain ⟨r', h', nx', asgN, mksN, g, f⟩ := ih hk
            have hle := f.le
            refine ⟨r', h', nx', asgN, mksN ++ [(d, nx)], by simpa using g, by omega, fun t ht => ?_, fun p hp => ?_, fun ρ hp E hs => f.ghost ρ hp E (hs.ghost hnx _), fun p hp => ?_, fun p hp => ?_⟩
            · rw [f.regs t fun p hp => ht p (by simp [hp])]
              refine R.get_set_ne _ _ (by omega) fun e => ?_
              subst e
              exact ht o (by simp) ha hd
            · rcases List.mem_cons.1 hp with rfl | hp
              · exact ⟨d, hd, hlt⟩
              · exact f.dst p hp
            · obtain ⟨q, hq, h1⟩ := f.asg p hp; exact ⟨q, by simp [hq], h1⟩
            · rcases List.mem_append.1 hp with hp | hp
              · obtain ⟨h0, h00, q, hq, h1⟩ := f.mks p hp; exact ⟨by omega, h00, q, by simp [hq], h1⟩
              · simp only [List.mem_singleton] at hp; subst hp; exact ⟨Nat.le_refl _, by omega, o, by simp, ha, hd⟩
      have hex : ∃ (v : AV) (h1 : H) (nx1 : Nat), (if asgOp o.op = true then firstK P all n l r h nx ((d, v) :: asg) mks k
          else if Nat.beq nx1 nx = true then r.setK d v fun r => firstK P all n l r h nx asg mks k
          else onTrue (Nat.blt nx 3583) (h.setK nx (h1.get nx) fun h => forceN (nx + 1) fun nx1 => r.setK d v fun r => firstK P all n l r h nx1 asg ((d, nx) :: mks) k)) = true := by
        refine exec_some (hc o (by simp)) (fun out => ?_) hk
        cases out with
        | val v h1 nx1 => exact fun h => ⟨v, h1, nx1, h⟩
        | _ => exact fun h => by cases h
      obtain ⟨v, h1, nx1, hk⟩ := hex
      exact key v h1 nx1 hk
    · rcases ite_true' hk with ⟨ha, hk⟩ | ⟨ha, hk⟩
      · exact late _ ha hk
      · rw [R.setK_eq] at hk
        exact plain _ ha hk

end Go.Proofs.YtfcoffpmcmhieaaGreatDoor.AI
namespace Go.Proofs.YtfcoffpmcmhieaaGreatDoor.AI
variable {P : Program}

/-- What was looked at anew of an operation. -/
def ChkF (P : Program) (all : Array Oper) (r : R) (h : H) (nx : Nat) (asg : List (Tmp × AV)) (mks : List (Tmp × Nat)) (o : Oper) : Prop :=
  ∃ (w : Bool) (d : Nat) (u : AV), wantedA all r o = some w ∧ o.dst = some d ∧ valOf o d r asg = some u ∧ (w = true → exec o.op P r h nx (chkOut h nx u d mks) = true) ∧ (w = false → u = .tup [])

theorem chkK_true {all : Array Oper} {r : R} {h : H} {nx : Nat} {asg : List (Tmp × AV)} {mks : List (Tmp × Nat)} {k : Bool} : ∀ {l : List Oper}, chkK P all r h nx asg mks l k = true →
    k = true ∧ ∀ o ∈ l, ChkF P all r h nx asg mks o
  | [], hk => ⟨hk, fun _ h => by cases h⟩
  | o :: l, hk => by
    obtain ⟨w, hw, hk⟩ := onSome_true (show onSome (wantedA all r o) _ = true from hk)
    obtain ⟨d, hd, hk⟩ := onSome_true hk
    obtain ⟨u, hu, hk⟩ := onSome_true hk
    obtain ⟨h1, hk⟩ := onTrue_true hk
    obtain ⟨g1, g2⟩ := chkK_true hk
    refine ⟨g1, fun p hp => ?_⟩
    rcases List.mem_cons.1 hp with rfl | hp
    · refine ⟨w, d, u, hw, hd, hu, fun e => ?_, fun e => ?_⟩
      · subst e; exact h1
      · subst e
        have h1 : isUnit u = true := h1
        unfold isUnit at h1
        split at h1
        · rfl
        · cases h1
    · exact g2 p hp

theorem lookup_drop (d : Nat) : ∀ (asg : List (Tmp × AV)) (t : Nat), (asg.filter fun p => !(p.1 == d)).lookup t = if t = d then none else asg.lookup t
  | [], t => by simp
  | (a, b) :: q, t => by
    have ih := lookup_drop d q t
    rw [List.filter_cons]
    by_cases e : a = d
    · subst e
      simp only [beq_self_eq_true, Bool.not_true, Bool.false_eq_true, if_false]
      rw [ih, List.lookup_cons]
      by_cases e2 : t = a
      · simp [e2]
      · have : (t == a) = false := by simpa using e2
        rw [if_neg e2, if_neg e2, this]
    · have hne : (a == d) = false := by simpa using e
      simp only [hne, Bool.not_false, if_true]
      rw [List.lookup_cons, List.lookup_cons, ih]
      by_cases e2 : t = a
      · subst e2; simp [e]
      · have : (t == a) = false := by simpa using e2
        rw [this]

theorem layK_true {k : R → List (Tmp × AV) → Bool} : ∀ {l : List Oper} {asg : List (Tmp × AV)} {r : R}, layK l asg r k = true → (∀ o ∈ l, ∀ d : Nat, o.dst = some d → d < 448) →
    ∃ r' asg', k r' asg' = true ∧ (∀ t : Nat, (∃ o ∈ l, o.dst = some t) → asg'.lookup t = none ∧ ∃ v, asg.lookup t = some v ∧ r'.get t = v) ∧
      ∀ t : Nat, (∀ o ∈ l, o.dst ≠ some t) → asg'.lookup t = asg.lookup t ∧ r'.get t = r.get t
  | [], asg, r, hk, _ => ⟨r, asg, hk, (fun _ ⟨_, h, _⟩ => by cases h), fun _ _ => ⟨rfl, rfl⟩⟩
  | o :: l, asg, r, hk, hlt => by
    obtain ⟨d, hd, hk⟩ := onSome_true (show onSome o.dst _ = true from hk)
    obtain ⟨v, hv, hk⟩ := onSome_true hk
    rw [R.setK_eq] at hk
    obtain ⟨r', asg', g0, g1, g2⟩ := layK_true hk fun p hp => hlt p (by simp [hp])
    have hd448 : @LT.lt Nat instLTNat d 448 := hlt o (by simp) d hd
    have hnot : ∀ p ∈ l, p.dst ≠ some d := fun p hp e => by
      obtain ⟨_, v', hv', _⟩ := g1 d ⟨p, hp, e⟩
      rw [lookup_drop, if_pos rfl] at hv'
      cases hv'
    refine ⟨r', asg', g0, fun t ⟨p, hp, hpd⟩ => ?_, fun t ht => ?_⟩
    · rcases List.mem_cons.1 hp with rfl | hp
      · rw [hd] at hpd; cases hpd
        obtain ⟨e1, e2⟩ := g2 d hnot
        refine ⟨by rw [e1, lookup_drop, if_pos rfl], v, hv, by rw [e2, R.get_set_same]⟩
      · have htd : t ≠ d := fun e => by subst e; exact hnot p hp hpd
        obtain ⟨e1, v', e2, e3⟩ := g1 t ⟨p, hp, hpd⟩
        rw [lookup_drop, if_neg htd] at e2
        exact ⟨e1, v', e2, e3⟩
    · have htd : t ≠ d := fun e => by subst e; exact ht o (by simp) hd
      obtain ⟨e1, e2⟩ := g2 t fun p hp => ht p (by simp [hp])
      rw [lookup_drop, if_neg htd] at e1
      rw [R.get_set_ne _ _ hd448 htd] at e2
      exact ⟨e1, e2⟩

/-- A guard, of which the register is known. -/
theorem wanted_ok {ρ : Ren} {n : Nat} {r : R} {tmps : Array Value} {X : Nat → Prop} (hr : RX ρ n r tmps X) {all : Array Oper} {o : Oper} {w : Bool} (hx : ∀ t : Nat, t ∈ readsT all.toList o → ¬ X t)
    (hw : wantedA all r o = some w) : Region.wanted o (yielded all tmps) = w := by
  unfold wantedA wantedG at hw
  unfold Region.wanted
  cases hg : o.guard with
  | none => rw [hg] at hw; simpa using hw
  | some q =>
    obtain ⟨j, want⟩ := q
    rw [hg] at hw
    simp only at hw ⊢
    cases hd : (all[j]?).bind (·.dst) with
    | none => rw [hd] at hw; cases hw
    | some t =>
      rw [hd] at hw
      simp only at hw
      have ht : t ∈ readsT all.toList o := by
        unfold readsT
        rw [hg]
        simp only [Array.getElem?_toList, hd]
        simp
      have hv := hr.val t (hx t ht)
      have hy : yielded all tmps j = match tmps[t]? with | some (.bool b) => some b | _ => none := by
        unfold yielded
        rw [hd]
        rfl
      rw [hy]
      have hgd : tmps.getD t undef = (tmps[t]?).getD undef := by simp
      rw [hgd] at hv
      cases ha : r.get t with
      | bool b =>
        rw [ha] at hw hv
        simp only [VR] at hv
        simp only [Option.some.injEq] at hw
        cases hb : tmps[t]? with
        | none => rw [hb] at hv; cases hv
        | some x =>
          rw [hb] at hv
          simp only [Option.getD_some] at hv
          subst hv
          simp only
          rw [← hw]
          cases b <;> cases want <;> rfl
      | top => rw [ha] at hw; cases hw
      | _ =>
        rw [ha] at hw hv
        simp only [Option.some.injEq] at hw
        subst hw
        cases hb : tmps[t]? with
        | none => rfl
        | some x =>
          rw [hb] at hv
          simp only [Option.getD_some] at hv
          cases x <;> first | rfl | (simp only [VR] at hv; first | (cases hv; done) | (obtain ⟨_, h1, h2⟩ := hv; first | (cases h2; done) | (cases h1; done)) | (obtain ⟨_, _, _, _, h2, _⟩ := hv; cases h2))

/-! ### While a region runs -/
/-- The registers of which nothing is known. -/
def XJ (all : Array Oper) (is : List Nat) (asg : List (Tmp × AV)) (W : Nat → Prop) (t : Nat) : Prop :=
  W t ∨ (∃ (i : Nat) (o : Oper), i ∈ is ∧ all[i]? = some o ∧ asgOp o.op = false ∧ o.dst = some t) ∨
    ∃ (i : Nat) (o : Oper), i ∉ is ∧ all[i]? = some o ∧ asgOp o.op = true ∧ o.dst = some t ∧ (asg.lookup t).isSome = true

structure J (P : Program) (all : Array Oper) (g gg : Nat) (is : List Nat) (ρ : Ren) (m nx n : Nat) (r : R) (tmps : Array Value) (asg : List (Tmp × AV)) (mks : List (Tmp × Nat)) (W : Nat → Prop) : Prop where
  ord : OrdL all is
  lt : ∀ i ∈ is, i < all.size
  dc : ∀ i, i < all.size → i ∉ is → ∀ b, befB all i b = true → b ∉ is
  ex : ∀ (i : Nat) (o : Oper), all[i]? = some o → effOp P o = false → i ∉ is → loI P all i < gg
  dn : ∀ (i : Nat) (o : Oper) (t : Nat), all[i]? = some o → o.dst = some t → t < n
  wn : ∀ t, W t → t < n
  rx : RX ρ n r tmps (XJ all is asg W)
  al : ∀ (t : Nat) (v : AV), asg.lookup t = some v → ∃ (i : Nat) (o : Oper), all[i]? = some o ∧ effOp P o = false ∧ asgOp o.op = true ∧ o.dst = some t ∧ g ≤ lastI P all i ∧ (i ∉ is → VR ρ v (tmps.getD t undef))
  ml : ∀ p ∈ mks, m ≤ p.2 ∧ p.2 < nx ∧ ∃ (i : Nat) (o : Oper), all[i]? = some o ∧ o.dst = some p.1 ∧ (i ∈ is → ρ p.2 = none)

/-- The chain is done up to the gap. -/
def Chd (P : Program) (all : Array Oper) (g : Nat) (is : List Nat) : Prop := ∀ (k c : Nat), (chainOf P all.toList)[k]? = some c → (c ∈ is ↔ g ≤ k)

theorem xj_lt {all : Array Oper} {is : List Nat} {asg : List (Tmp × AV)} {W : Nat → Prop} {n : Nat} (dn : ∀ (i : Nat) (o : Oper) (t : Nat), all[i]? = some o → o.dst = some t → t < n) (wn : ∀ t, W t → t < n) :
    ∀ t, XJ all is asg W t → t < n := by
  rintro t (h | ⟨i, o, _, ho, _, hd⟩ | ⟨i, o, _, ho, _, hd, _⟩)
  · exact wn t h
  · exact dn i o t ho hd
  · exact dn i o t ho hd

theorem eff_asg {o : Oper} (h : asgOp o.op = true) : effOp P o = false := by
  unfold asgOp at h
  split at h
  · rename_i x hx; unfold effOp; rw [hx]
  · cases h

/-- What the next operation reads is known. -/
theorem J.reads {all : Array Oper} {gl : List Gap} (st : Stat P all gl) {g gg i : Nat} {rest : List Nat} {ρ : Ren} {m nx n : Nat} {r : R} {tmps : Array Value} {asg : List (Tmp × AV)} {mks : List (Tmp × Nat)}
    (j : J P all g gg (i :: rest) ρ m nx n r tmps asg mks fun _ => False) {o : Oper} (ho : all[i]? = some o) : ∀ t : Nat, t ∈ readsT all.toList o → ¬ XJ all (i :: rest) asg (fun _ => False) t := by
  rintro t ht (h | ⟨q, p, hq, hp, ha, hd⟩ | ⟨q, p, hq, hp, ha, hd, _⟩)
  · exact h
  · by_cases e : q = i
    · subst e
      rw [ho] at hp; cases hp
      exact st.own q o t ho ha hd ht
    · have := (st.reads q i p o t hp ho e hd ht).2 ha
      exact (j.ord.2.1 q this) hq
  · by_cases e : q = i
    · subst e; exact hq (by simp)
    · have := (st.reads q i p o t hp ho e hd ht).1 ha
      have hlt : q < all.size := (Array.getElem?_eq_some_iff.1 hp).1
      exact j.dc q hlt hq i this (by simp)

theorem ops_reads {l : List Oper} {o : Oper} {t : Tmp} (h : .tmp t ∈ o.op.operands) : t ∈ readsT l o := by
  unfold readsT
  refine List.mem_append.2 (.inr (List.mem_filterMap.2 ⟨.tmp t, by simpa using h, rfl⟩))

end Go.Proofs.YtfcoffpmcmhieaaGreatDoor.AI
namespace Go.Proofs.YtfcoffpmcmhieaaGreatDoor.AI
variable {P : Program}

/-- One of the calm operations has run. -/
theorem J.run {all : Array Oper} {gl : List Gap} (st : Stat P all gl) {g i : Nat} {rest : List Nat} {ρ ρ' : Ren} {m nx n : Nat} {r : R} {tmps : Array Value} {asg : List (Tmp × AV)} {mks : List (Tmp × Nat)}
    (j : J P all g (g + 1) (i :: rest) ρ m nx n r tmps asg mks fun _ => False) (hch : Chd P all g (i :: rest)) {o : Oper} (ho : all[i]? = some o) (he : effOp P o = false) {d : Nat} (hd : o.dst = some d)
    {u : AV} (hu : valOf o d r asg = some u) (hle : ρ.le ρ') (hmk : ∀ p ∈ mks, p.1 ≠ d → ρ p.2 = none → ρ' p.2 = none) {cv : Value} (hv : VR ρ' u cv) :
    J P all g (g + 1) rest ρ' m nx n r (tmps.setIfInBounds d cv) asg mks (fun _ => False) ∧ Chd P all g rest := by
  have hi : i < all.size := (Array.getElem?_eq_some_iff.1 ho).1
  have hnr : i ∉ rest := j.ord.1
  have hdn : d < n := j.dn i o d ho hd
  have hsz : d < tmps.size := by rw [j.rx.size]; exact hdn
  have huniq : ∀ (q : Nat) (p : Oper), all[q]? = some p → p.dst = some d → q = i := fun q p hp hpd => by
    by_cases e : q = i
    · exact e
    · exact absurd hd (st.dst1 q i p o d hp ho e hpd)
  have hget : ∀ t : Nat, t ≠ d → (tmps.setIfInBounds d cv).getD t undef = tmps.getD t undef := fun t ht => by simp [Array.getElem?_setIfInBounds_ne (Ne.symm ht)]
  have hgetd : (tmps.setIfInBounds d cv).getD d undef = cv := by simp [hsz]
  have hchi : i ∉ chainOf P all.toList := fun h => by rw [mem_chain ho, he] at h; cases h
  have hex : loI P all i ≤ g := loI_le fun k c hk hb => by
    have hc := (hch k c hk)
    rcases Nat.lt_or_ge k g with h | h
    · exact h
    · exact absurd (hc.2 h) (j.ord.2.1 c hb)
  have hlast : g ≤ lastI P all i ∨ True := .inr trivial
  refine ⟨⟨j.ord.2.2, fun q hq => j.lt q (by simp [hq]), fun q hq hqr b hb => ?_, fun q p hp hpe hq => ?_, j.dn, fun _ h => h.elim, ⟨by simp [j.rx.size], j.rx.le, xj_lt j.dn (fun _ h => h.elim), fun t ht => ?_⟩, fun t v hl => ?_, fun p hp => ?_⟩, fun k c hk => ?_⟩
  · by_cases e : q = i
    · subst e
      exact fun h => j.ord.2.1 b hb (by simp [h])
    · have := j.dc q hq (by simp [e, hqr]) b hb
      exact fun h => this (by simp [h])
  · by_cases e : q = i
    · subst e; omega
    · exact j.ex q p hp hpe (by simp [e, hq])
  · by_cases e : t = d
    · subst e
      rw [hgetd]
      unfold valOf at hu
      split at hu
      · rename_i ha
        exact absurd (.inr (.inr ⟨i, o, hnr, ho, ha, hd, by rw [hu]; rfl⟩)) ht
      · simp only [Option.some.injEq] at hu
        rw [hu]; exact hv
    · rw [hget t e]
      refine VR.mono hle _ (j.rx.val t fun hx => ht ?_)
      rcases hx with h | ⟨q, p, hq, hp, ha, hpd⟩ | ⟨q, p, hq, hp, ha, hpd, hl⟩
      · exact h.elim
      · refine .inr (.inl ⟨q, p, ?_, hp, ha, hpd⟩)
        rcases List.mem_cons.1 hq with rfl | hq
        · rw [ho] at hp; cases hp; rw [hd] at hpd; cases hpd; exact absurd rfl e
        · exact hq
      · exact .inr (.inr ⟨q, p, fun h => hq (by simp [h]), hp, ha, hpd, hl⟩)
  · obtain ⟨q, p, hp, hpe, ha, hpd, hg, hvr⟩ := j.al t v hl
    refine ⟨q, p, hp, hpe, ha, hpd, hg, fun hq => ?_⟩
    by_cases e : q = i
    · subst e
      rw [ho] at hp; cases hp
      rw [hd] at hpd; cases hpd
      unfold valOf at hu
      rw [ha] at hu
      simp only [if_true] at hu
      rw [hl] at hu
      simp only [Option.some.injEq] at hu
      rw [hgetd, hu]; exact hv
    · have htd : t ≠ d := fun h => by subst h; exact e (huniq q p hp hpd)
      rw [hget t htd]
      exact VR.mono hle _ (hvr (by simp [e, hq]))
  · obtain ⟨h1, h2, q, p', hp', hpd, hnone⟩ := j.ml p hp
    refine ⟨h1, h2, q, p', hp', hpd, fun hq => ?_⟩
    refine hmk p hp (fun h => ?_) (hnone (by simp [hq]))
    rw [h] at hpd
    have := huniq q p' hp' hpd
    subst this
    exact hnr hq
  · have := hch k c hk
    rw [← this, List.mem_cons]
    constructor
    · exact fun h => .inr h
    · rintro (h | h)
      · subst h; exact absurd (List.mem_of_getElem? hk) hchi
      · exact h

theorem mksOk_lt : ∀ {l : List (Tmp × Nat)} {nx : Nat}, mksOk l nx = true → ∀ p ∈ l, p.2 < nx
  | [], _, _, _, h => by cases h
  | (a, id) :: l, nx, h, p, hp => by
    unfold mksOk at h
    simp only [Bool.and_eq_true, Nat.blt_eq] at h
    rcases List.mem_cons.1 hp with rfl | hp
    · exact h.1
    · have := mksOk_lt h.2 p hp; omega
theorem mksOk_inj : ∀ {l : List (Tmp × Nat)} {nx : Nat}, mksOk l nx = true → ∀ p ∈ l, ∀ q ∈ l, p.2 = q.2 → p.1 = q.1
  | [], _, _, _, h => by cases h
  | (a, id) :: l, nx, h, p, hp => by
    unfold mksOk at h
    simp only [Bool.and_eq_true, Nat.blt_eq] at h
    intro q hq e
    rcases List.mem_cons.1 hp with rfl | hp <;> rcases List.mem_cons.1 hq with rfl | hq
    · rfl
    · have := mksOk_lt h.2 q hq; simp at e; omega
    · have := mksOk_lt h.2 p hp; simp at e; omega
    · exact mksOk_inj h.2 p hp q hq e

theorem renEq_ok {ρ : Ren} {v u : AV} {nx id : Nat} {L : Loc} {cv : Value} (h : renEq v u nx = some id) (hv : VR (ρ.put nx L) v cv) : VR (ρ.put id L) u cv := by
  unfold renEq at h
  split at h
  · rename_i a b
    split at h
    · rename_i e
      have e : a = nx := by simpa using e
      subst e
      simp only [Option.some.injEq] at h; subst h
      simp only [VR] at hv ⊢
      obtain ⟨K, hK, hv⟩ := hv
      rw [Ren.put_same] at hK; cases hK
      exact ⟨L, Ren.put_same _ _ _, hv⟩
    · cases h
  · rename_i a b
    split at h
    · rename_i e
      have e : a = nx := by simpa using e
      subst e
      simp only [Option.some.injEq] at h; subst h
      simp only [VR] at hv ⊢
      obtain ⟨K, hK, hv⟩ := hv
      rw [Ren.put_same] at hK; cases hK
      exact ⟨L, Ren.put_same _ _ _, hv⟩
    · cases h
  · rename_i a l c e s b l' c' e' s'
    split at h
    · rename_i e
      simp only [Bool.and_eq_true, beq_iff_eq, Nat.beq_eq] at e
      obtain ⟨⟨⟨⟨e1, e2⟩, e3⟩, e4⟩, e5⟩ := e
      subst e1 e2 e3 e4 e5
      simp only [Option.some.injEq] at h; subst h
      simp only [VR] at hv ⊢
      obtain ⟨K, co, cc, hK, hv⟩ := hv
      rw [Ren.put_same] at hK; cases hK
      exact ⟨L, co, cc, Ren.put_same _ _ _, hv⟩
    · cases h
  · cases h

/-- What holds of names that were laid for a floor. -/
theorem Ren.ext_put' {ρ : Ren} {m id : Nat} (L : Loc) (h : ρ id = none) (hm : m ≤ id) : ρ.ext m (ρ.put id L) := ⟨Ren.le_put L h, fun i hi => Ren.put_ne _ _ (by omega)⟩

section
variable {b : Frame} {k : List Item} {cs : List Frame}

theorem step_value {all : Array Oper} {i : Nat} {rest : List Nat} {o : Oper} {a : Act} {w w' : World} {nxt : Next} {cv : Value} (ho : all[i]? = some o) (hd : ∀ c, o.op ≠ .defer c) (hw : Region.wanted o (yielded all a.tmps) = true)
    (hr : (execOp a.eval o).run P w = .ok nxt w') (hn : nxt = .value cv ∨ nxt = .skip ∧ cv = undef) :
    step P (lone (b.atR a (.inRegion all (i :: rest) :: k)) cs w) = .next (lone (b.atR (a.put o.dst cv) (.inRegion all rest :: k)) cs w') := by
  have hfin := Frame.finish_atR b a all i rest k cv
  rw [ho] at hfin
  simp only [Option.bind_some] at hfin
  rw [← hfin]
  refine step_lone_go ?_
  rw [stepGR_op ho hw, Oper.semAt_eq _ _ _ hd]
  rcases hn with rfl | ⟨rfl, rfl⟩ <;> simp [stepG.apply, Sem.runT_eq, hr, GStep.bare_after]

theorem step_unwanted {all : Array Oper} {i : Nat} {rest : List Nat} {o : Oper} {a : Act} {w : World} (ho : all[i]? = some o) (hw : Region.wanted o (yielded all a.tmps) = false) :
    step P (lone (b.atR a (.inRegion all (i :: rest) :: k)) cs w) = .next (lone (b.atR (a.put o.dst undef) (.inRegion all rest :: k)) cs w) := by
  have := stepR_op_skip (P := P) (b := b) (a := a) (k := k) (cs := cs) (w := w) (ops := all) (i := i) (rest := rest) (by rw [ho]; simpa using hw)
  rw [ho] at this
  exact this

theorem calm_nodefer {o : Oper} (h : calmOp o.op = true) : ∀ c, o.op ≠ .defer c := fun c e => by rw [e] at h; simp [calmOp] at h

/-- A gap is run through, up to the next of the chain. -/
theorem drain {all : Array Oper} {gl : List Gap} (st : Stat P all gl) {g : Nat} {gap : Gap} (hgap : gl[g]? = some gap) {m nx n : Nat} {r : R} {h : H} {asg : List (Tmp × AV)} {mks : List (Tmp × Nat)} {E : Nat → Option Obj}
    (hm8 : 8 ≤ m) (hnx : nx ≤ 3583) (hck : ∀ o ∈ gap.live, ChkF P all r h nx asg mks o) (hmks : mksOk mks nx = true) {defs : List Deferred} : ∀ (is : List Nat) (ρ : Ren) (tmps : Array Value) (w : World),
    J P all g (g + 1) is ρ m nx n r tmps asg mks (fun _ => False) → Chd P all g is → HS ρ h nx w.heap E →
    ∃ is' ρ' tmps' w', Steps P (lone (b.atR ⟨tmps, defs⟩ (.inRegion all is :: k)) cs w) (lone (b.atR ⟨tmps', defs⟩ (.inRegion all is' :: k)) cs w') ∧ SO w w' ∧ ρ.ext m ρ' ∧
      J P all g (g + 1) is' ρ' m nx n r tmps' asg mks (fun _ => False) ∧ Chd P all g is' ∧ HS ρ' h nx w'.heap E ∧ (∀ i rest, is' = i :: rest → ∃ o, all[i]? = some o ∧ effOp P o = true)
  | [], ρ, tmps, w, j, hch, hs => ⟨[], ρ, tmps, w, Steps.refl P _, SO.refl w, Ren.ext_refl m ρ, j, hch, hs, fun _ _ h => by cases h⟩
  | i :: rest, ρ, tmps, w, j, hch, hs => by
    have hi := j.lt i (by simp)
    obtain ⟨o, ho⟩ : ∃ o, all[i]? = some o := ⟨_, Array.getElem?_eq_getElem hi⟩
    cases he : effOp P o with
    | true => exact ⟨i :: rest, ρ, tmps, w, Steps.refl P _, SO.refl w, Ren.ext_refl m ρ, j, hch, hs, fun i' r' e => by cases e; exact ⟨o, ho, he⟩⟩
    | false =>
      obtain ⟨hcalm, _⟩ := st.calm i o ho he
      obtain ⟨hgc, _, hlive, _, _⟩ := st.gap hgap
      have hlo : loI P all i ≤ g := loI_le fun q c hq hb => by
        rcases Nat.lt_or_ge q g with h | h
        · exact h
        · exact absurd ((hch q c hq).2 h) (j.ord.2.1 c hb)
      have hla : g ≤ lastI P all i := lastI_ge hgc fun q c hq hc => by
        cases hb : befB all c i with
        | false => rfl
        | true =>
          have hcn : c ∉ i :: rest := fun h => by have := (hch q c hc).1 h; omega
          obtain ⟨p, hp, _⟩ := chain_get hc
          have hlt : c < all.size := (Array.getElem?_eq_some_iff.1 hp).1
          exact absurd (by simp) (j.dc c hlt hcn i hb)
      obtain ⟨wn, d, u, hw, hd, hu, ht, hf⟩ := hck o ((hlive o).2 ⟨i, ho, he, hlo, hla⟩)
      have hreads := j.reads st ho
      have hwant := wanted_ok j.rx hreads hw
      -- what is left goes on
      have go : ∀ (ρ1 : Ren) (cv : Value) (w1 : World), ρ.ext m ρ1 → (∀ p ∈ mks, p.1 ≠ d → ρ p.2 = none → ρ1 p.2 = none) → VR ρ1 u cv → HS ρ1 h nx w1.heap E → SO w w1 →
          step P (lone (b.atR ⟨tmps, defs⟩ (.inRegion all (i :: rest) :: k)) cs w) = .next (lone (b.atR ((⟨tmps, defs⟩ : Act).put o.dst cv) (.inRegion all rest :: k)) cs w1) →
          ∃ is' ρ' tmps' w', Steps P (lone (b.atR ⟨tmps, defs⟩ (.inRegion all (i :: rest) :: k)) cs w) (lone (b.atR ⟨tmps', defs⟩ (.inRegion all is' :: k)) cs w') ∧ SO w w' ∧ ρ.ext m ρ' ∧
            J P all g (g + 1) is' ρ' m nx n r tmps' asg mks (fun _ => False) ∧ Chd P all g is' ∧ HS ρ' h nx w'.heap E ∧ (∀ i rest, is' = i :: rest → ∃ o, all[i]? = some o ∧ effOp P o = true) := by
        intro ρ1 cv w1 hext hmk hv hs1 hso hstep
        obtain ⟨j1, hch1⟩ := j.run st hch ho he hd hu hext.1 hmk hv
        obtain ⟨is', ρ', tmps', w', g1, g0, g2, g3⟩ := drain st hgap hm8 hnx hck hmks rest ρ1 (tmps.setIfInBounds d cv) w1 j1 hch1 hs1
        refine ⟨is', ρ', tmps', w', Steps.head hstep ?_, hso.trans g0, Ren.ext_trans hext g2 (Nat.le_refl _), g3⟩
        have : ((⟨tmps, defs⟩ : Act).put o.dst cv) = ⟨tmps.setIfInBounds d cv, defs⟩ := by rw [hd]; rfl
        rw [this]
        exact g1
      cases wn with
      | false =>
        have hu0 := hf rfl
        subst hu0
        exact go ρ undef w (Ren.ext_refl m ρ) (fun p _ _ h => h) (by simp only [VR]; exact ⟨#[], rfl, VRs_nil.2 rfl⟩) hs (SO.refl w) (step_unwanted ho hwant)
      | true =>
        have hk := ht rfl
        obtain ⟨r', hr1, hr2⟩ := j.rx.top
        rw [exec_same (r' := r') fun x hx t htx => hr2 t (hreads t (ops_reads (by rw [← htx]; exact hx)))] at hk
        rcases exec_calm (P := P) (a := (⟨tmps, defs⟩ : Act)) ⟨hs, hr1⟩ hcalm hk with ⟨v, cv, g1, g2, g3⟩ | ⟨v, cv, blk, ob, L, w1, g1, g2, g3, g4, g5, g6, g7⟩
        · have g1 : (if Nat.beq nx nx = true then avEq v u else _) = true := g1
          have hbeq : Nat.beq nx nx = true := by simp
          rw [if_pos hbeq] at g1
          have := avEq_eq v u g1
          subst this
          exact go ρ cv w (Ren.ext_refl m ρ) (fun p _ _ h => h) g3 hs (SO.refl w) (step_value ho (calm_nodefer hcalm) hwant g2 (.inl rfl))
        · unfold chkOut at g1
          simp only at g1
          have hbeq : ¬ Nat.beq (nx + 1) nx = true := by simp
          rw [if_neg hbeq] at g1
          split at g1
          · rename_i id hid
            simp only [Bool.and_eq_true, List.any_eq_true] at g1
            obtain ⟨⟨p, hp, hpe⟩, hblk⟩ := g1
            simp only [beq_iff_eq, Bool.and_eq_true] at hpe
            obtain ⟨hp1, hp2⟩ := hpe
            rw [H.get_set_same] at hblk
            have hblk := blkEq_eq hblk
            obtain ⟨h1, h2, q, p', hp', hpd, hnone⟩ := j.ml p hp
            rw [hp1] at hpd
            have hq : q = i := by
              by_cases e : q = i
              · exact e
              · exact absurd hd (st.dst1 q i p' o d hp' ho e hpd)
            subst hq
            rw [hp2] at h1 h2 hnone
            have hnone := hnone (by simp)
            rw [hblk] at g6
            refine go (ρ.put id L) cv w1 (Ren.ext_put' L hnone h1) (fun q hq hne hn => ?_) (renEq_ok hid g5) (by rw [g3.1]; exact hs.born h2 (by omega) hnone g4 g6) (SO.push g3.1 g3.2.1 g3.2.2) (step_value ho (calm_nodefer hcalm) hwant g2 (.inl rfl))
            refine (Ren.put_ne _ _ fun e => ?_).trans hn
            exact hne ((mksOk_inj hmks q hq p hp (by rw [e, hp2])).trans hp1)
          · cases g1
end

end Go.Proofs.YtfcoffpmcmhieaaGreatDoor.AI
namespace Go.Proofs.YtfcoffpmcmhieaaGreatDoor.AI
variable {P : Program}

section
variable {all : Array Oper} {g gg : Nat} {is : List Nat} {ρ ρ' : Ren} {m nx nx' n : Nat} {r : R} {tmps : Array Value} {asg : List (Tmp × AV)} {mks : List (Tmp × Nat)} {W : Nat → Prop}

theorem J.mono (j : J P all g gg is ρ m nx n r tmps asg mks W) (he : ρ.ext nx ρ') (hn : nx ≤ nx') : J P all g gg is ρ' m nx' n r tmps asg mks W := by
  refine ⟨j.ord, j.lt, j.dc, j.ex, j.dn, j.wn, j.rx.mono he.1, fun t v hl => ?_, fun p hp => ?_⟩
  · obtain ⟨i, o, h1, h2, h3, h4, h5, h6⟩ := j.al t v hl
    exact ⟨i, o, h1, h2, h3, h4, h5, fun hi => VR.mono he.1 _ (h6 hi)⟩
  · obtain ⟨h1, h2, i, o, h3, h4, h5⟩ := j.ml p hp
    exact ⟨h1, by omega, i, o, h3, h4, fun hi => (he.2 _ h2).trans (h5 hi)⟩

theorem J.start (hord : OrdL all is) (hmem : ∀ i, i ∈ is ↔ i < all.size) (hr : RR ρ n r tmps) (hdn : dstsOk n all.toList = true) : J P all 0 0 is ρ m nx n r tmps [] [] (fun _ => False) ∧ Chd P all 0 is := by
  have dn : ∀ (i : Nat) (o : Oper) (t : Nat), all[i]? = some o → o.dst = some t → t < n := fun i o t ho hd => by
    have hm : o ∈ all.toList := by
      have := Array.mem_of_getElem? ho
      simpa using this
    have := List.all_eq_true.1 hdn o hm
    rw [hd] at this
    simpa [Nat.blt_eq] using this
  refine ⟨⟨hord, fun i hi => (hmem i).1 hi, fun i hi hni => absurd ((hmem i).2 hi) hni, fun i o ho _ hni => absurd ((hmem i).2 (Array.getElem?_eq_some_iff.1 ho).1) hni, dn, fun _ h => h.elim,
    ⟨hr.size, hr.le, xj_lt dn (fun _ h => h.elim), fun t _ => hr.val t⟩, fun t v hl => (by cases hl), fun p hp => (by cases hp)⟩, fun k c hk => ?_⟩
  obtain ⟨o, ho, _⟩ := chain_get hk
  exact ⟨fun _ => Nat.zero_le _, fun _ => (hmem c).2 (Array.getElem?_eq_some_iff.1 ho).1⟩

theorem J.finish (j : J P all g gg [] ρ m nx n r tmps [] mks fun _ => False) : RR ρ n r tmps := j.rx.to_RR fun t hx => by
  rcases hx with h | ⟨_, _, h, _⟩ | ⟨_, _, _, _, _, _, h⟩
  · exact h
  · cases h
  · simp at h

theorem J.prep {gl : List Gap} (st : Stat P all gl) {gap : Gap} (hgap : gl[g]? = some gap) (j : J P all g g is ρ m nx n r tmps asg mks fun _ => False) (hch : Chd P all g is) (hmn : m ≤ nx) {h h' : H} {hp : Array Obj}
    {E : Nat → Option Obj} (hs : HS ρ h nx hp E) {r' : R} {asgN : List (Tmp × AV)} {mksN : List (Tmp × Nat)} (f : FirstR gap.first n r h nx r' h' nx' asgN mksN) :
    J P all g (g + 1) is ρ m nx' n r' tmps (asgN ++ asg) (mksN ++ mks) (fun _ => False) := by
  obtain ⟨hgc, hfirst, _, _, _⟩ := st.gap hgap
  -- the first ones have not run
  have hnot : ∀ (i : Nat) (o : Oper), all[i]? = some o → effOp P o = false → loI P all i = g → i ∈ is := fun i o ho he hl => by
    by_cases hi : i ∈ is
    · exact hi
    · have := j.ex i o ho he hi; omega
  have hlast : ∀ i, i ∈ is → g ≤ lastI P all i := fun i hi => lastI_ge hgc fun q c hq hc => by
    cases hb : befB all c i with
    | false => rfl
    | true =>
      have hcn : c ∉ is := fun h => by have := (hch q c hc).1 h; omega
      obtain ⟨p, hp, _⟩ := chain_get hc
      exact absurd hi (j.dc c (Array.getElem?_eq_some_iff.1 hp).1 hcn i hb)
  have hmemN : ∀ (t : Nat) (v : AV), asgN.lookup t = some v → ∃ (i : Nat) (o : Oper), all[i]? = some o ∧ effOp P o = false ∧ asgOp o.op = true ∧ o.dst = some t ∧ i ∈ is := fun t v hl => by
    have hm : (t, v) ∈ asgN := by
      obtain ⟨l1, l2, h1, _⟩ := List.lookup_eq_some_iff.1 hl
      rw [h1]; simp
    obtain ⟨o, ho, ha, hd⟩ := f.asg _ hm
    obtain ⟨i, hi, he, hl⟩ := (hfirst o).1 ho
    exact ⟨i, o, hi, he, ha, hd, hnot i o hi he hl⟩
  refine ⟨j.ord, j.lt, j.dc, fun i o ho he hi => by have := j.ex i o ho he hi; omega, j.dn, fun _ h => h.elim, ⟨j.rx.size, j.rx.le, xj_lt j.dn (fun _ h => h.elim), fun t ht => ?_⟩, fun t v hl => ?_, fun p hp => ?_⟩
  · rw [f.regs t fun o ho ha hd => ?_]
    · refine j.rx.val t fun hx => ht ?_
      rcases hx with h | h | ⟨i, o, hi, ho, ha, hd, hl⟩
      · exact h.elim
      · exact .inr (.inl h)
      · refine .inr (.inr ⟨i, o, hi, ho, ha, hd, ?_⟩)
        rw [List.lookup_append]
        cases hN : asgN.lookup t with
        | some v => rfl
        | none => simpa using hl
    · obtain ⟨i, hi, he, hl⟩ := (hfirst o).1 ho
      exact ht (.inr (.inl ⟨i, o, hnot i o hi he hl, hi, ha, hd⟩))
  · rw [List.lookup_append] at hl
    cases hN : asgN.lookup t with
    | some v' =>
      obtain ⟨i, o, ho, he, ha, hd, hi⟩ := hmemN t v' hN
      exact ⟨i, o, ho, he, ha, hd, hlast i hi, fun h => absurd hi h⟩
    | none =>
      rw [hN] at hl
      exact j.al t v (by simpa using hl)
  · rcases List.mem_append.1 hp with hp | hp
    · obtain ⟨h1, h2, o, ho, ha, hd⟩ := f.mks p hp
      obtain ⟨i, hi, he, hl⟩ := (hfirst o).1 ho
      refine ⟨by omega, h2, i, o, hi, hd, fun _ => ?_⟩
      cases hρ : ρ p.2 with
      | none => rfl
      | some L => have := hs.dom _ L hρ; omega
    · obtain ⟨h1, h2, h3⟩ := j.ml p hp
      exact ⟨h1, by have := f.le; omega, h3⟩

theorem J.lay {gl : List Gap} (st : Stat P all gl) {gap : Gap} (hgap : gl[g]? = some gap) (j : J P all g (g + 1) is ρ m nx n r tmps asg mks fun _ => False)
    (hrun : ∀ (i : Nat) (o : Oper), all[i]? = some o → effOp P o = false → lastI P all i = g → i ∉ is) {r' : R} {asg' : List (Tmp × AV)}
    (h1 : ∀ t : Nat, (∃ o ∈ gap.lay, o.dst = some t) → asg'.lookup t = none ∧ ∃ v, asg.lookup t = some v ∧ r'.get t = v)
    (h2 : ∀ t : Nat, (∀ o ∈ gap.lay, o.dst ≠ some t) → asg'.lookup t = asg.lookup t ∧ r'.get t = r.get t) :
    J P all (g + 1) (g + 1) is ρ m nx n r' tmps asg' mks fun _ => False := by
  obtain ⟨hgc, _, _, hlay, _⟩ := st.gap hgap
  refine ⟨j.ord, j.lt, j.dc, j.ex, j.dn, j.wn, ⟨j.rx.size, j.rx.le, xj_lt j.dn (fun _ h => h.elim), fun t ht => ?_⟩, fun t v hl => ?_, j.ml⟩
  · by_cases hx : ∃ o ∈ gap.lay, o.dst = some t
    · obtain ⟨_, v, hv, hr⟩ := h1 t hx
      obtain ⟨o, ho, hd⟩ := hx
      obtain ⟨i, hi, he, hl, ha⟩ := (hlay o).1 ho
      obtain ⟨q, p, hp, _, _, hpd, _, hvr⟩ := j.al t v hv
      have hq : q = i := by
        by_cases e : q = i
        · exact e
        · exact absurd hd (st.dst1 q i p o t hp hi e hpd)
      subst hq
      rw [hr]
      exact hvr (hrun q o hi he hl)
    · have hx' : ∀ o ∈ gap.lay, o.dst ≠ some t := fun o ho hd => hx ⟨o, ho, hd⟩
      obtain ⟨e1, e2⟩ := h2 t hx'
      rw [e2]
      refine j.rx.val t fun h => ht ?_
      rcases h with h | h | ⟨i, o, hi, ho, ha, hd, hl⟩
      · exact h.elim
      · exact .inr (.inl h)
      · exact .inr (.inr ⟨i, o, hi, ho, ha, hd, by rw [e1]; exact hl⟩)
  · by_cases hx : ∃ o ∈ gap.lay, o.dst = some t
    · rw [(h1 t hx).1] at hl; cases hl
    · have hx' : ∀ o ∈ gap.lay, o.dst ≠ some t := fun o ho hd => hx ⟨o, ho, hd⟩
      rw [(h2 t hx').1] at hl
      obtain ⟨i, o, ho, he, ha, hd, hg, hvr⟩ := j.al t v hl
      refine ⟨i, o, ho, he, ha, hd, ?_, hvr⟩
      rcases Nat.eq_or_lt_of_le hg with e | e
      · exact absurd hd (hx' o ((hlay o).2 ⟨i, ho, he, e.symm, ha⟩))
      · exact e

theorem J.wait {c : Nat} (j : J P all g gg (c :: is) ρ m nx n r tmps asg mks fun _ => False) {o : Oper} (ho : all[c]? = some o) (he : effOp P o = true) :
    J P all g gg is ρ m nx n r tmps asg mks fun t => o.dst = some t := by
  have hne : ∀ (i : Nat) (p : Oper), all[i]? = some p → effOp P p = false → i ≠ c := fun i p hp hpe e => by
    subst e; rw [ho] at hp; cases hp; rw [he] at hpe; cases hpe
  refine ⟨j.ord.2.2, fun i hi => j.lt i (by simp [hi]), fun q hq hqr b hb => ?_, fun i p hp hpe hi => j.ex i p hp hpe (by simp [hi, hne i p hp hpe]), j.dn, fun t ht => j.dn c o t ho ht,
    ⟨j.rx.size, j.rx.le, xj_lt j.dn fun t ht => j.dn c o t ho ht, fun t ht => j.rx.val t fun hx => ht ?_⟩, fun t v hl => ?_, fun p hp => ?_⟩
  · by_cases e : q = c
    · subst e
      exact fun h => j.ord.2.1 b hb (by simp [h])
    · have := j.dc q hq (by simp [e, hqr]) b hb
      exact fun h => this (by simp [h])
  · rcases hx with h | ⟨q, p, hq, hp, ha, hd⟩ | ⟨q, p, hq, hp, ha, hd, hl⟩
    · exact h.elim
    · rcases List.mem_cons.1 hq with rfl | hq
      · rw [ho] at hp; cases hp; exact .inl hd
      · exact .inr (.inl ⟨q, p, hq, hp, ha, hd⟩)
    · exact .inr (.inr ⟨q, p, fun h => hq (by simp [h]), hp, ha, hd, hl⟩)
  · obtain ⟨i, p, hp, hpe, ha, hd, hg, hvr⟩ := j.al t v hl
    exact ⟨i, p, hp, hpe, ha, hd, hg, fun hi => hvr (by simp [hi, hne i p hp hpe])⟩
  · obtain ⟨h1, h2, i, p', hp', hpd, hn⟩ := j.ml p hp
    exact ⟨h1, h2, i, p', hp', hpd, fun hi => hn (by simp [hi])⟩

theorem Chd.next {gl : List Gap} (st : Stat P all gl) {c : Nat} (hch : Chd P all g (c :: is)) (hc : (chainOf P all.toList)[g]? = some c) (hni : c ∉ is) : Chd P all (g + 1) is := fun k c' hk => by
  have := hch k c' hk
  constructor
  · intro h
    have hg := this.1 (by simp [h])
    rcases Nat.eq_or_lt_of_le hg with e | e
    · subst e; rw [hc] at hk; cases hk; exact absurd h hni
    · exact e
  · intro h
    have hm := this.2 (by omega)
    rcases List.mem_cons.1 hm with rfl | hm
    · have := chain_lt hc hk (by omega); omega
    · exact hm

theorem J.done {gl : List Gap} (st : Stat P all gl) {c : Nat} {o : Oper} (ho : all[c]? = some o) (he : effOp P o = true) (j : J P all g gg is ρ m nx n r tmps asg mks fun t => o.dst = some t)
    {v : AV} {cv : Value} (hv : VR ρ v cv) : (∀ d : Nat, o.dst = some d → J P all g gg is ρ m nx n (r.set d v) (tmps.setIfInBounds d cv) asg mks fun _ => False) ∧ (o.dst = none → J P all g gg is ρ m nx n r tmps asg mks fun _ => False) := by
  refine ⟨fun d hd => ?_, fun hd => ?_⟩
  · have hdn := j.dn c o d ho hd
    refine ⟨j.ord, j.lt, j.dc, j.ex, j.dn, fun _ h => h.elim, ?_, fun t v' hl => ?_, j.ml⟩
    · refine j.rx.set hdn hv (xj_lt j.dn fun _ h => h.elim) fun t htd hx => ?_
      rcases hx with h | h
      · have h : o.dst = some t := h
        rw [hd] at h; cases h; exact absurd rfl htd
      · exact .inr h
    · obtain ⟨i, p, hp, hpe, ha, hpd, hg, hvr⟩ := j.al t v' hl
      refine ⟨i, p, hp, hpe, ha, hpd, hg, fun hi => ?_⟩
      have hic : i ≠ c := fun e => by subst e; rw [ho] at hp; cases hp; rw [he] at hpe; cases hpe
      have htd : t ≠ d := fun e => by subst e; exact st.dst1 i c p o t hp ho hic hpd hd
      rw [show (tmps.setIfInBounds d cv).getD t undef = tmps.getD t undef by simp [Array.getElem?_setIfInBounds_ne (Ne.symm htd)]]
      exact hvr hi
  · refine ⟨j.ord, j.lt, j.dc, j.ex, j.dn, fun _ h => h.elim, ⟨j.rx.size, j.rx.le, xj_lt j.dn fun _ h => h.elim, fun t ht => j.rx.val t fun hx => ht ?_⟩, j.al, j.ml⟩
    rcases hx with h | h
    · have h : o.dst = some t := h
      rw [hd] at h; cases h
    · exact .inr h
end

end Go.Proofs.YtfcoffpmcmhieaaGreatDoor.AI
