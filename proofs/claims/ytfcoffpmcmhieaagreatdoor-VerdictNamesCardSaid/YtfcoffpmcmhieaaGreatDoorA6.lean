/- The abstract interpreter: lemmas about calls; long runs are cut. -/
import Derived.Test.YtfcoffpmcmhieaaGreatDoorA5
set_option linter.unusedVariables false
set_option linter.unusedSimpArgs false
namespace Go.Proofs.YtfcoffpmcmhieaaGreatDoor.AI
noncomputable section

/-! ### Renaming -/
def sg (σ : List Nat) (i : Nat) : Nat := (σ[i]?).getD 3583
mutual
def renA (σ : List Nat) : AV → AV
  | .top => .top
  | .bool b => .bool b
  | .int k n => .int k n
  | .str s => .str s
  | .nilptr => .nilptr
  | .ptr b o => .ptr (sg σ b) o
  | .nilslice => .nilslice
  | .slice b o l c e s => .slice (sg σ b) o l c e s
  | .nilmap => .nilmap
  | .map b => .map (sg σ b)
  | .nilfunc => .nilfunc
  | .func f l => .func f (renAs σ l)
  | .meth f a => .meth f (renA σ a)
  | .yield l => .yield (sg σ l)
  | .nilif => .nilif
  | .iface t v => .iface t (renA σ v)
  | .agg l => .agg (renAs σ l)
  | .tup l => .tup (renAs σ l)
def renAs (σ : List Nat) : List AV → List AV
  | [] => []
  | a :: l => renA σ a :: renAs σ l
end
mutual
def belowA (n : Nat) : AV → Bool
  | .ptr b _ => Nat.blt b n
  | .slice b _ _ _ _ _ => Nat.blt b n
  | .map b => Nat.blt b n
  | .yield l => Nat.blt l n
  | .func _ l => belowAs n l
  | .meth _ v => belowA n v
  | .iface _ v => belowA n v
  | .agg l => belowAs n l
  | .tup l => belowAs n l
  | _ => true
def belowAs (n : Nat) : List AV → Bool
  | [] => true
  | a :: l => belowA n a && belowAs n l
end

/-- A block of a lemma. -/
inductive LB where
  | dead
  | cells (l : List AV)
  | map (l : List (AV × AV))

def LB.blk (b : LB) : Blk := match b with | .dead => .dead | .cells l => .cells l.length (T.ofList l) [] | .map l => .map l 0
def renKV (σ : List Nat) (l : List (AV × AV)) : List (AV × AV) := l.map fun e => (renA σ e.1, renA σ e.2)
def LB.ren (σ : List Nat) (b : LB) : LB := match b with | .dead => .dead | .cells l => .cells (renAs σ l) | .map l => .map (renKV σ l)
def belowB (n : Nat) (b : LB) : Bool := match b with | .dead => true | .cells l => belowAs n l | .map l => l.all fun e => belowA n e.1 && belowA n e.2
def LB.live (b : LB) : Bool := match b with | .dead => false | _ => true
def LB.isMap (b : LB) : Bool := match b with | .map _ => true | _ => false

structure Lem where
  fn : FuncId
  args : List AV
  /-- the blocks of the names 0, 1, .. ahead of the call -/
  pre : List LB
  res : AV
  /-- the blocks of the names 0, 1, .. behind it: those of `pre`, and the new ones -/
  post : List LB
  /-- which of the blocks are as they were -/
  kp : List Bool

def kvEq : List (AV × AV) → List (AV × AV) → Bool
  | [], [] => true
  | a :: l, b :: m => avEq a.1 b.1 && avEq a.2 b.2 && kvEq l m
  | _, _ => false
/-- A block holds just this. -/
def sameB (b : Blk) (lb : LB) : Bool :=
  match lb with
  | .dead => true
  | .cells l => b.onCells fun n t z => onTrue (Nat.beq n l.length) (cellsAt n t z 0 n fun cur => avsEq l cur)
  | .map l => (match b with | .map m _ => kvEq l m | _ => false)

def kindOk : List LB → List LB → Bool
  | [], _ => true
  | p :: pre, q :: post => (!q.isMap || p.isMap || !p.live) && kindOk pre post
  | _ :: _, [] => false
def kpOk (n : Nat) : List LB → List LB → List Bool → Bool
  | [], _, [] => true
  | p :: pre, q :: post, b :: kp => (!b || (match p, q with | .cells l, .cells m => avsEq l m && belowAs n l | _, _ => false)) && kpOk n pre post kp
  | _, _, _ => false
def lemOk (L : Lem) : Bool :=
  Nat.ble 8 L.pre.length && Nat.ble L.pre.length L.post.length && Nat.ble L.post.length 3583 && belowA L.post.length L.res && (L.post.all (belowB L.post.length)) && kindOk L.pre L.post && kpOk L.pre.length L.pre L.post L.kp

/-- The blocks are laid down. -/
def layH : List LB → Nat → H → (H → Bool) → Bool
  | [], _, h, k => k h
  | b :: l, i, h, k => @Bool.rec (fun _ => Bool) (layH l (i + 1) h k) (h.setK i b.blk fun h => layH l (i + 1) h k) b.live

def sameAll (h : H) (τ : List Nat) : List LB → List Nat → Bool
  | [], _ => true
  | b :: l, j :: js => (!b.live || sameB (h.get j) (b.ren τ)) && sameAll h τ l js
  | _, [] => false
def distinctM : List Nat → Nat → Bool
  | [], _ => true
  | j :: l, m => !(Nat.testBit m j) && distinctM l (m ||| 2 ^ j)
/-- The names that live blocks have. -/
def liveNames : List LB → List Nat → List Nat
  | b :: l, j :: js => @Bool.rec (fun _ => List Nat) (liveNames l js) (j :: liveNames l js) b.live
  | _, _ => []
/-- What is to hold behind the call: `news`: the names that the new blocks have at the end of the run. -/
def postOf (L : Lem) (news : List Nat) (v : AV) (h : H) : Bool :=
  let τ := List.range L.pre.length ++ news
  avEq v (renA τ L.res) && Nat.beq τ.length L.post.length && sameAll h τ L.post τ && distinctM (liveNames L.post τ) 0

/-! ### A lemma is used -/
/-- The blocks that are turned or new: their names, what they hold. -/
def prs : List LB → List LB → List Nat → List (Nat × LB)
  | p :: pre, q :: post, j :: js => @Bool.rec (fun _ => List (Nat × LB)) (prs pre post js) ((j, q) :: prs pre post js) p.live
  | [], q :: post, j :: js => (j, q) :: prs [] post js
  | _, _, _ => []
/-- The blocks that are laid anew. -/
def sets : List LB → List LB → List Nat → List Bool → List (Nat × LB)
  | p :: pre, q :: post, j :: js, b :: kp => @Bool.rec (fun _ => List (Nat × LB)) (sets pre post js kp) ((j, q) :: sets pre post js kp) (p.live && !b)
  | [], q :: post, j :: js, _ => (j, q) :: sets [] post js []
  | _, _, _, _ => []
def preOk (h : H) (nx : Nat) (σ : List Nat) : List LB → List Nat → Bool
  | [], [] => true
  | p :: pre, j :: js => (!p.live || (Nat.blt j nx && sameB (h.get j) (p.ren σ))) && preOk h nx σ pre js
  | _, _ => false
def verify (L : Lem) (σ σ1 : List Nat) (args : List AV) (h : H) (nx : Nat) : Bool :=
  avsEq (renAs σ L.args) args && Nat.beq σ.length L.pre.length && ((List.range 8).all fun g => Nat.beq (sg σ g) g) && Nat.ble (nx + (L.post.length - L.pre.length)) 3583 &&
    preOk h nx σ L.pre σ && distinctM ((prs L.pre L.post σ1).map (·.1)) 0
def verOf (b : Blk) : Nat := match b with | .map _ v => v | _ => 0
def outB (h : H) (j : Nat) (σ1 : List Nat) (q : LB) : Blk := match q.ren σ1 with | .map l => .map l (verOf (h.get j) + 1) | b => b.blk
def setAll (h0 : H) (σ1 : List Nat) : List (Nat × LB) → H → (H → Bool) → Bool
  | [], h, k => k h
  | p :: l, h, k => h.setK p.1 (outB h0 p.1 σ1 p.2) fun h => setAll h0 σ1 l h k

/-! ### The names are found (by a walk that nothing is asked of) -/
def bindId (b c : Nat) (s : T Nat × List Nat) : T Nat × List Nat := if b < 8 then s else match s.1.get b with | some _ => s | none => (s.1.set c b, b :: s.2)
mutual
def bindA : AV → AV → T Nat × List Nat → T Nat × List Nat
  | .ptr b _, .ptr c _, s => bindId b c s
  | .slice b _ _ _ _ _, .slice c _ _ _ _ _, s => bindId b c s
  | .map b, .map c, s => bindId b c s
  | .yield b, .yield c, s => bindId b c s
  | .func _ l, .func _ m, s => bindAs l m s
  | .meth _ a, .meth _ b, s => bindA a b s
  | .iface _ a, .iface _ b, s => bindA a b s
  | .agg l, .agg m, s => bindAs l m s
  | .tup l, .tup m, s => bindAs l m s
  | _, _, s => s
def bindAs : List AV → List AV → T Nat × List Nat → T Nat × List Nat
  | a :: l, b :: m, s => bindAs l m (bindA a b s)
  | _, _, s => s
end
def bindC (t : T AV) (z : List AV) : List AV → Nat → T Nat × List Nat → T Nat × List Nat
  | [], _, s => s
  | a :: l, i, s => bindC t z l (i + 1) (match t.get i with | some b => bindA a b s | none => (match z[i % z.length]? with | some b => bindA a b s | none => s))
def bindKV : List (AV × AV) → List (AV × AV) → T Nat × List Nat → T Nat × List Nat
  | a :: l, b :: m, s => bindKV l m (bindA a.2 b.2 (bindA a.1 b.1 s))
  | _, _, s => s
def bindB (lb : LB) (b : Blk) (s : T Nat × List Nat) : T Nat × List Nat :=
  match lb, b with
  | .cells l, .cells _ t z => bindC t z l 0 s
  | .map l, .map m _ => bindKV l m s
  | _, _ => s
def findGo (pre : T LB) (h : H) (n : Nat) : T Nat × List Nat → T Nat :=
  @Nat.rec (fun _ => T Nat × List Nat → T Nat) (fun s => s.1) (fun _ ih s => match s with
    | (t, []) => t
    | (t, b :: q) => ih (match t.get b, pre.get b with | some c, some lb => bindB lb (h.get c) (t, q) | _, _ => (t, q))) n
def findS (L : Lem) (args : List AV) (h : H) : List Nat :=
  let t := findGo (T.ofList L.pre) h 3584 (bindAs L.args args (.leaf, [0, 1, 2, 3, 4, 5, 6, 7].filter fun _ => false))
  (List.range L.pre.length).map fun i => if i < 8 then i else (t.get i).getD 3583

def applyL (L : Lem) (σ1 : List Nat) (h : H) (nx : Nat) (k : AV → H → Nat → Bool) : Bool :=
  setAll h σ1 (sets L.pre L.post σ1 L.kp) h fun h' => forceN (nx + (L.post.length - L.pre.length)) fun nx' => k (renA σ1 L.res) h' nx'
def useWith (L : Lem) (args : List AV) (h : H) (nx : Nat) (k : AV → H → Nat → Bool) (fb : Unit → Bool) (σ : List Nat) : Bool :=
  let σ1 := σ ++ List.range' nx (L.post.length - L.pre.length)
  if verify L σ σ1 args h nx then applyL L σ1 h nx k else fb ()
mutual
/-- Alike, but for names. -/
def likeA : AV → AV → Bool
  | .bool a, .bool b => a == b
  | .int _ a, .int _ b => intEq a b
  | .str a, .str b => a == b
  | .ptr _ o, .ptr _ p => Nat.beq o p
  | .slice _ o l c _ _, .slice _ o' l' c' _ _ => Nat.beq o o' && Nat.beq l l' && Nat.beq c c'
  | .func f l, .func g m => Nat.beq f g && likeAs l m
  | .meth f a, .meth g b => Nat.beq f g && likeA a b
  | .iface t a, .iface u b => Nat.beq t u && likeA a b
  | .agg l, .agg m => likeAs l m
  | .tup l, .tup m => likeAs l m
  | .nilptr, .nilptr | .nilslice, .nilslice | .nilmap, .nilmap | .nilfunc, .nilfunc | .nilif, .nilif | .map _, .map _ | .yield _, .yield _ => true
  | _, _ => false
def likeAs : List AV → List AV → Bool
  | [], [] => true
  | a :: l, b :: m => likeA a b && likeAs l m
  | _, _ => false
end
def useL (L : Lem) : ExtF := fun args h nx k fb => if likeAs L.args args then useWith L args h nx k fb (findS L args h) else fb ()
/-- One lemma after the other. -/
def useLs : List Lem → ExtF
  | [] => fun _ _ _ _ fb => fb ()
  | L :: l => fun args h nx k fb => useL L args h nx k fun _ => useLs l args h nx k fb
/-- Lemmas, by their functions. -/
def tabOf : List Lem → T (List Lem)
  | [] => .leaf
  | L :: l => (tabOf l).set (match (tabOf l).get L.fn with | some q => L :: q | none => [L]) L.fn
def extL (ls : List Lem) : Ext := fun f => match (tabOf ls).get f with | some l => some (useLs l) | none => none

end
end Go.Proofs.YtfcoffpmcmhieaaGreatDoor.AI
namespace Go.Proofs.YtfcoffpmcmhieaaGreatDoor.AI
variable {P : Program}

/-! ### Renaming -/
mutual
theorem VR_ren {ρ ρ' : Ren} {σ : List Nat} {N : Nat} (hσ : ∀ i L, i < N → ρ i = some L → ρ' (sg σ i) = some L) : ∀ (a : AV) {v : Value}, belowA N a = true → VR ρ a v → VR ρ' (renA σ a) v
  | .top, _, _, _ => by simp only [renA, VR]
  | .bool _, _, _, h => by simp only [renA, VR] at h ⊢; exact h
  | .int _ _, _, _, h => by simp only [renA, VR] at h ⊢; exact h
  | .str _, _, _, h => by simp only [renA, VR] at h ⊢; exact h
  | .nilptr, _, _, h => by simp only [renA, VR] at h ⊢; exact h
  | .nilslice, _, _, h => by simp only [renA, VR] at h ⊢; exact h
  | .nilmap, _, _, h => by simp only [renA, VR] at h ⊢; exact h
  | .nilfunc, _, _, h => by simp only [renA, VR] at h ⊢; exact h
  | .nilif, _, _, h => by simp only [renA, VR] at h ⊢; exact h
  | .ptr b o, _, hb, h => by
    simp only [belowA, Nat.blt_eq] at hb
    simp only [renA, VR] at h ⊢
    obtain ⟨L, h1, h2⟩ := h; exact ⟨L, hσ _ _ hb h1, h2⟩
  | .slice b _ _ _ _ _, _, hb, h => by
    simp only [belowA, Nat.blt_eq] at hb
    simp only [renA, VR] at h ⊢
    obtain ⟨L, co, c, h1, h2⟩ := h; exact ⟨L, co, c, hσ _ _ hb h1, h2⟩
  | .map b, _, hb, h => by
    simp only [belowA, Nat.blt_eq] at hb
    simp only [renA, VR] at h ⊢
    obtain ⟨L, h1, h2⟩ := h; exact ⟨L, hσ _ _ hb h1, h2⟩
  | .yield b, _, hb, h => by
    simp only [belowA, Nat.blt_eq] at hb
    simp only [renA, VR] at h ⊢
    obtain ⟨L, h1, h2⟩ := h; exact ⟨L, hσ _ _ hb h1, h2⟩
  | .func f l, _, hb, h => by
    simp only [belowA] at hb
    simp only [renA, VR] at h ⊢
    obtain ⟨cs, h1, h2⟩ := h; exact ⟨cs, h1, VRs_ren hσ l hb h2⟩
  | .meth t a, _, hb, h => by
    simp only [belowA] at hb
    simp only [renA, VR] at h ⊢
    obtain ⟨x, h1, h2⟩ := h; exact ⟨x, h1, VR_ren hσ a hb h2⟩
  | .iface t a, _, hb, h => by
    simp only [belowA] at hb
    simp only [renA, VR] at h ⊢
    obtain ⟨x, h1, h2⟩ := h; exact ⟨x, h1, VR_ren hσ a hb h2⟩
  | .agg l, _, hb, h => by
    simp only [belowA] at hb
    simp only [renA, VR] at h ⊢
    obtain ⟨cs, h1, h2⟩ := h; exact ⟨cs, h1, VRs_ren hσ l hb h2⟩
  | .tup l, _, hb, h => by
    simp only [belowA] at hb
    simp only [renA, VR] at h ⊢
    obtain ⟨cs, h1, h2⟩ := h; exact ⟨cs, h1, VRs_ren hσ l hb h2⟩
theorem VRs_ren {ρ ρ' : Ren} {σ : List Nat} {N : Nat} (hσ : ∀ i L, i < N → ρ i = some L → ρ' (sg σ i) = some L) : ∀ (l : List AV) {vs : List Value}, belowAs N l = true → VRs ρ l vs → VRs ρ' (renAs σ l) vs
  | [], _, _, h => by simp only [renAs, VRs] at h ⊢; exact h
  | a :: l, _, hb, h => by
    simp only [belowAs, Bool.and_eq_true] at hb
    simp only [renAs, VRs] at h ⊢
    obtain ⟨v, r, h1, h2, h3⟩ := h
    exact ⟨v, r, h1, VR_ren hσ a hb.1 h2, VRs_ren hσ l hb.2 h3⟩
end

mutual
theorem VR_unren {ρ ρ' : Ren} {σ : List Nat} (hσ : ∀ i L, ρ' (sg σ i) = some L → ρ i = some L) : ∀ (a : AV) {v : Value}, VR ρ' (renA σ a) v → VR ρ a v
  | .top, _, _ => by simp only [VR]
  | .bool _, _, h => by simp only [renA, VR] at h ⊢; exact h
  | .int _ _, _, h => by simp only [renA, VR] at h ⊢; exact h
  | .str _, _, h => by simp only [renA, VR] at h ⊢; exact h
  | .nilptr, _, h => by simp only [renA, VR] at h ⊢; exact h
  | .nilslice, _, h => by simp only [renA, VR] at h ⊢; exact h
  | .nilmap, _, h => by simp only [renA, VR] at h ⊢; exact h
  | .nilfunc, _, h => by simp only [renA, VR] at h ⊢; exact h
  | .nilif, _, h => by simp only [renA, VR] at h ⊢; exact h
  | .ptr b o, _, h => by simp only [renA, VR] at h ⊢; obtain ⟨L, h1, h2⟩ := h; exact ⟨L, hσ _ _ h1, h2⟩
  | .slice b _ _ _ _ _, _, h => by simp only [renA, VR] at h ⊢; obtain ⟨L, co, c, h1, h2⟩ := h; exact ⟨L, co, c, hσ _ _ h1, h2⟩
  | .map b, _, h => by simp only [renA, VR] at h ⊢; obtain ⟨L, h1, h2⟩ := h; exact ⟨L, hσ _ _ h1, h2⟩
  | .yield b, _, h => by simp only [renA, VR] at h ⊢; obtain ⟨L, h1, h2⟩ := h; exact ⟨L, hσ _ _ h1, h2⟩
  | .func f l, _, h => by simp only [renA, VR] at h ⊢; obtain ⟨cs, h1, h2⟩ := h; exact ⟨cs, h1, VRs_unren hσ l h2⟩
  | .meth t a, _, h => by simp only [renA, VR] at h ⊢; obtain ⟨x, h1, h2⟩ := h; exact ⟨x, h1, VR_unren hσ a h2⟩
  | .iface t a, _, h => by simp only [renA, VR] at h ⊢; obtain ⟨x, h1, h2⟩ := h; exact ⟨x, h1, VR_unren hσ a h2⟩
  | .agg l, _, h => by simp only [renA, VR] at h ⊢; obtain ⟨cs, h1, h2⟩ := h; exact ⟨cs, h1, VRs_unren hσ l h2⟩
  | .tup l, _, h => by simp only [renA, VR] at h ⊢; obtain ⟨cs, h1, h2⟩ := h; exact ⟨cs, h1, VRs_unren hσ l h2⟩
theorem VRs_unren {ρ ρ' : Ren} {σ : List Nat} (hσ : ∀ i L, ρ' (sg σ i) = some L → ρ i = some L) : ∀ (l : List AV) {vs : List Value}, VRs ρ' (renAs σ l) vs → VRs ρ l vs
  | [], _, h => by simp only [renAs, VRs] at h ⊢; exact h
  | a :: l, _, h => by
    simp only [renAs, VRs] at h ⊢
    obtain ⟨v, r, h1, h2, h3⟩ := h
    exact ⟨v, r, h1, VR_unren hσ a h2, VRs_unren hσ l h3⟩
end

theorem renAs_length (σ : List Nat) : ∀ l : List AV, (renAs σ l).length = l.length
  | [] => rfl
  | a :: l => by simp [renAs, renAs_length σ l]
theorem renAs_get (σ : List Nat) : ∀ (l : List AV) (i : Nat), (renAs σ l)[i]? = (l[i]?).map (renA σ)
  | [], i => by simp [renAs]
  | a :: l, 0 => by simp [renAs]
  | a :: l, i + 1 => by simp [renAs, renAs_get σ l i]
theorem belowAs_get {n : Nat} : ∀ {l : List AV} {i : Nat} {a : AV}, belowAs n l = true → l[i]? = some a → belowA n a = true
  | [], i, a, _, h => by simp at h
  | b :: l, 0, a, h, hi => by simp only [belowAs, Bool.and_eq_true] at h; simp at hi; subst hi; exact h.1
  | b :: l, i + 1, a, h, hi => by simp only [belowAs, Bool.and_eq_true] at h; exact belowAs_get h.2 (by simpa using hi)

/-! ### Blocks -/
theorem kvEq_eq : ∀ {l m : List (AV × AV)}, kvEq l m = true → l = m
  | [], [], _ => rfl
  | [], _ :: _, h => by simp [kvEq] at h
  | _ :: _, [], h => by simp [kvEq] at h
  | (a, b) :: l, (c, d) :: m, h => by
    simp only [kvEq, Bool.and_eq_true] at h
    rw [avEq_eq _ _ h.1.1, avEq_eq _ _ h.1.2, kvEq_eq h.2]

theorem sameB_cells {b : Blk} {l : List AV} (h : sameB b (.cells l) = true) : ∃ t z, b = .cells l.length t z ∧ ∀ i, i < l.length → cellOf t z i = l[i]? := by
  obtain ⟨n, t, z, rfl, h⟩ := Blk.onCells_true (show b.onCells _ = true from h)
  obtain ⟨h1, h⟩ := onTrue_true h
  have h1 : n = l.length := by simpa using h1
  subst h1
  obtain ⟨_, cur, hl, hc, h⟩ := cellsAt_true h
  have := avsEq_eq _ _ h
  subst this
  exact ⟨t, z, rfl, fun i hi => by simpa using hc i hi⟩
theorem sameB_map {b : Blk} {l : List (AV × AV)} (h : sameB b (.map l) = true) : ∃ ver, b = .map l ver := by
  unfold sameB at h
  simp only at h
  split at h
  · rw [kvEq_eq h]; exact ⟨_, rfl⟩
  · cases h

theorem sameB_live {b : Blk} {q : LB} (h : sameB b q = true) (hq : q.live = true) : b ≠ .dead := by
  cases q with
  | dead => cases hq
  | cells l => obtain ⟨t, z, rfl, _⟩ := sameB_cells h; simp
  | map l => obtain ⟨v, rfl⟩ := sameB_map h; simp

/-- A block holds just this. -/
def SameP (b : Blk) (q : LB) : Prop :=
  match q with
  | .dead => True
  | .cells l => ∃ t z, b = .cells l.length t z ∧ ∀ i, i < l.length → cellOf t z i = l[i]?
  | .map l => ∃ ver, b = .map l ver
theorem SameP.self (q : LB) : SameP q.blk q := by
  cases q with
  | dead => trivial
  | cells l => exact ⟨_, _, rfl, fun i hi => cellOf_ofList _ _ hi⟩
  | map l => exact ⟨_, rfl⟩
theorem SameP.alive {b : Blk} {q : LB} (h : SameP b q) (hq : q.live = true) : b ≠ .dead := by
  cases q with
  | dead => cases hq
  | cells l => obtain ⟨t, z, rfl, _⟩ := h; simp
  | map l => obtain ⟨v, rfl⟩ := h; simp

/-- A block found under other names. -/
theorem BR_ren {ρ ρ' : Ren} {σ : List Nat} {N : Nat} (hσ : ∀ i L, i < N → ρ i = some L → ρ' (sg σ i) = some L) {h h' : H} {b : Blk} {q : LB} {L : Loc} {hp : Array Obj} (hs : SameP b q) (hq : q.live = true)
    (hb : belowB N q = true) (hB : BR ρ h b L hp) (ver : Nat) : BR ρ' h' (match q.ren σ with | .map l => .map l ver | b => b.blk) L hp := by
  cases q with
  | dead => cases hq
  | cells l =>
    obtain ⟨t, z, rfl, hc⟩ := hs
    obtain ⟨c, e, fr, g1, g2, g3, g4, g5⟩ := hB
    refine ⟨c, e, fr, g1, g2, by rw [renAs_length]; exact g3, g4, fun i hi => ?_⟩
    rw [renAs_length] at hi
    obtain ⟨a, ha, v, hv, hr, hf⟩ := g5 i hi
    rw [hc i hi] at ha
    refine ⟨renA σ a, ?_, v, hv, VR_ren hσ a (belowAs_get hb ha) hr, hf⟩
    rw [cellOf_ofList _ _ (by rw [renAs_length]; exact hi), renAs_get, ha]
    rfl
  | map l =>
    obtain ⟨v, rfl⟩ := hs
    obtain ⟨es, clock, g1, g2, g3, g4⟩ := hB
    refine ⟨es, clock, g1, ⟨by simpa [renKV] using g2.1, fun i e he => ?_⟩, g3, g4⟩
    have he : (l.map fun e => (renA σ e.1, renA σ e.2))[i]? = some e := he
    rw [List.getElem?_map, Option.map_eq_some_iff] at he
    obtain ⟨e0, he0, rfl⟩ := he
    obtain ⟨m, hm, h1, h2⟩ := g2.2 i e0 he0
    have hbe := List.all_eq_true.1 (show (l.all fun e => belowA N e.1 && belowA N e.2) = true from hb) e0 (List.mem_of_getElem? he0)
    simp only [Bool.and_eq_true] at hbe
    exact ⟨m, hm, VR_ren hσ _ hbe.1 h1, VR_ren hσ _ hbe.2 h2⟩
theorem BR_unren {ρ ρ' : Ren} {σ : List Nat} (hσ : ∀ i L, ρ' (sg σ i) = some L → ρ i = some L) {h h' : H} {b : Blk} {p : LB} {L : Loc} {hp : Array Obj} (hs : sameB b (p.ren σ) = true) (hp' : p.live = true)
    (hB : BR ρ' h' b L hp) : BR ρ h p.blk L hp := by
  cases p with
  | dead => cases hp'
  | cells l =>
    obtain ⟨t, z, rfl, hc⟩ := sameB_cells hs
    obtain ⟨c, e, fr, g1, g2, g3, g4, g5⟩ := hB
    rw [renAs_length] at g3 g5 hc
    refine ⟨c, e, fr, g1, g2, g3, g4, fun i hi => ?_⟩
    obtain ⟨a, ha, v, hv, hr, hf⟩ := g5 i hi
    rw [hc i hi, renAs_get] at ha
    obtain ⟨a0, ha0, rfl⟩ := Option.map_eq_some_iff.1 ha
    exact ⟨a0, by rw [cellOf_ofList _ _ hi]; exact ha0, v, hv, VR_unren hσ a0 hr, hf⟩
  | map l =>
    obtain ⟨v, rfl⟩ := sameB_map hs
    obtain ⟨es, clock, g1, g2, g3, g4⟩ := hB
    refine ⟨es, clock, g1, ⟨by have := g2.1; simpa [renKV] using this, fun i e he => ?_⟩, g3, g4⟩
    obtain ⟨m, hm, h1, h2⟩ := g2.2 i (renA σ e.1, renA σ e.2) (by show (l.map fun e => (renA σ e.1, renA σ e.2))[i]? = _; rw [List.getElem?_map, he]; rfl)
    exact ⟨m, hm, VR_unren hσ _ h1, VR_unren hσ _ h2⟩

/-! ### Walks over the lists -/
theorem layH_true {k : H → Bool} : ∀ {l : List LB} {i : Nat} {h : H}, layH l i h k = true → i + l.length ≤ 3584 →
    ∃ h', k h' = true ∧ ∀ j, h'.get j = match (if i ≤ j then l[j - i]? else none) with | some b => if b.live then b.blk else h.get j | none => h.get j
  | [], i, h, hk, _ => ⟨h, hk, fun j => by split <;> simp_all⟩
  | b :: l, i, h, hk, hl => by
    simp only [List.length_cons] at hl
    have step : ∀ h1 : H, (∀ j, h1.get j = if j = i ∧ b.live = true then b.blk else h.get j) → layH l (i + 1) h1 k = true →
        ∃ h', k h' = true ∧ ∀ j, h'.get j = match (if i ≤ j then (b :: l)[j - i]? else none) with | some b => if b.live then b.blk else h.get j | none => h.get j := by
      intro h1 hg hk
      obtain ⟨h', g1, g2⟩ := layH_true hk (by omega)
      refine ⟨h', g1, fun j => ?_⟩
      rw [g2, hg]
      by_cases e : j = i
      · subst e
        rw [if_neg (by omega), if_pos (Nat.le_refl _), Nat.sub_self]
        simp
      · by_cases c : i ≤ j
        · obtain ⟨q, rfl⟩ : ∃ q, j = i + 1 + q := ⟨j - i - 1, by omega⟩
          rw [if_pos (by omega), if_pos c, show i + 1 + q - (i + 1) = q by omega, show i + 1 + q - i = q + 1 by omega, List.getElem?_cons_succ, if_neg (by omega)]
        · rw [if_neg (by omega), if_neg c, if_neg (by omega)]
    rcases brec_true (show @Bool.rec (fun _ => Bool) (layH l (i + 1) h k) (h.setK i b.blk fun h => layH l (i + 1) h k) b.live = true from hk) with ⟨hb, hk⟩ | ⟨hb, hk⟩
    · exact step h (fun j => by rw [hb]; simp) hk
    · rw [H.setK_eq] at hk
      refine step _ (fun j => ?_) hk
      by_cases e : j = i
      · subst e; rw [H.get_set_same, if_pos ⟨rfl, hb⟩]
      · rw [H.get_set_ne _ _ (by omega) e, if_neg (fun h => e h.1)]

noncomputable def preOf (l : List LB) (i : Nat) : Blk := match l[i]? with | some b => b.blk | none => .dead

theorem layH_pre {k : H → Bool} {l : List LB} (hk : layH l 0 H.empty k = true) (hl : l.length ≤ 3584) : ∃ h', k h' = true ∧ ∀ j, h'.get j = preOf l j := by
  obtain ⟨h', g1, g2⟩ := layH_true hk (by omega)
  refine ⟨h', g1, fun j => ?_⟩
  rw [g2, if_pos (Nat.zero_le _), Nat.sub_zero, H.get_empty]
  unfold preOf
  cases hj : l[j]? with
  | none => rfl
  | some b =>
    simp only
    split
    · rfl
    · rename_i hb
      cases b <;> first | rfl | exact absurd rfl hb
theorem layH_ex : ∀ (l : List LB) (i : Nat) (h : H), layH l i h (fun _ => true) = true
  | [], _, _ => rfl
  | b :: l, i, h => by
    show @Bool.rec (fun _ => Bool) (layH l (i + 1) h fun _ => true) (h.setK i b.blk fun h => layH l (i + 1) h fun _ => true) b.live = true
    cases b.live
    · exact layH_ex l _ _
    · show h.setK i b.blk _ = true
      rw [H.setK_eq]; exact layH_ex l _ _

theorem sameAll_get {h : H} {τ : List Nat} : ∀ {l : List LB} {js : List Nat}, sameAll h τ l js = true → ∀ (i j : Nat) (b : LB), l[i]? = some b → js[i]? = some j → b.live = true → sameB (h.get j) (b.ren τ) = true
  | [], _, _, i, j, b, hi, _, _ => by simp at hi
  | c :: l, [], hs, _, _, _, _, _, _ => by cases hs
  | c :: l, j0 :: js, hs, i, j, b, hi, hj, hl => by
    simp only [sameAll, Bool.and_eq_true, Bool.or_eq_true, Bool.not_eq_true'] at hs
    cases i with
    | zero =>
      simp at hi hj; subst hi hj
      rcases hs.1 with h1 | h1
      · rw [hl] at h1; cases h1
      · exact h1
    | succ i => exact sameAll_get hs.2 i j b (by simpa using hi) (by simpa using hj) hl
theorem mem_liveNames : ∀ {l : List LB} {js : List Nat} {i j : Nat} {b : LB}, l[i]? = some b → js[i]? = some j → b.live = true → j ∈ liveNames l js
  | [], _, i, _, _, hi, _, _ => by simp at hi
  | c :: l, [], i, _, _, _, hj, _ => by simp at hj
  | c :: l, j0 :: js, i, j, b, hi, hj, hl => by
    show j ∈ @Bool.rec (fun _ => List Nat) (liveNames l js) (j0 :: liveNames l js) c.live
    cases i with
    | zero =>
      simp at hi hj; subst hi hj
      rw [hl]; simp
    | succ i =>
      have := mem_liveNames (l := l) (js := js) (i := i) (j := j) (b := b) (by simpa using hi) (by simpa using hj) hl
      cases c.live
      · exact this
      · simp [this]
theorem liveNames_inj : ∀ {l : List LB} {js : List Nat}, (liveNames l js).Nodup → ∀ (i i' j : Nat) (b b' : LB), l[i]? = some b → l[i']? = some b' → js[i]? = some j → js[i']? = some j → b.live = true → b'.live = true → i = i'
  | [], _, _, i, _, _, _, _, hi, _, _, _, _, _ => by simp at hi
  | c :: l, [], _, i, _, _, _, _, _, _, hj, _, _, _ => by simp at hj
  | c :: l, j0 :: js, hn, i, i', j, b, b', hi, hi', hj, hj', hl, hl' => by
    have hn : (@Bool.rec (fun _ => List Nat) (liveNames l js) (j0 :: liveNames l js) c.live).Nodup := hn
    have hn' : (liveNames l js).Nodup := by
      cases hc : c.live with
      | false => rw [hc] at hn; exact hn
      | true => rw [hc] at hn; exact (List.nodup_cons.1 (show (j0 :: liveNames l js).Nodup from hn)).2
    cases i with
    | zero =>
      cases i' with
      | zero => rfl
      | succ i' =>
        simp at hi hj; subst hi hj
        rw [hl] at hn
        exact absurd (mem_liveNames (i := i') (by simpa using hi') (by simpa using hj') hl') (List.nodup_cons.1 (show (j0 :: liveNames l js).Nodup from hn)).1
    | succ i =>
      cases i' with
      | zero =>
        simp at hi' hj'; subst hi' hj'
        rw [hl'] at hn
        exact absurd (mem_liveNames (i := i) (by simpa using hi) (by simpa using hj) hl) (List.nodup_cons.1 (show (j0 :: liveNames l js).Nodup from hn)).1
      | succ i' => rw [liveNames_inj hn' i i' j b b' (by simpa using hi) (by simpa using hi') (by simpa using hj) (by simpa using hj') hl hl']

theorem preOk_get {h : H} {nx : Nat} {σ : List Nat} : ∀ {pre : List LB} {js : List Nat}, preOk h nx σ pre js = true → ∀ (i : Nat) (p : LB) (j : Nat), pre[i]? = some p → js[i]? = some j → p.live = true →
    j < nx ∧ sameB (h.get j) (p.ren σ) = true
  | [], _, _, i, p, j, hp, _, _ => by simp at hp
  | q :: pre, [], hk, _, _, _, _, _, _ => by cases hk
  | q :: pre, j0 :: js, hk, i, p, j, hp, hj, hl => by
    simp only [preOk, Bool.and_eq_true, Bool.or_eq_true, Bool.not_eq_true', Nat.blt_eq] at hk
    cases i with
    | zero =>
      simp at hp hj; subst hp hj
      rcases hk.1 with h1 | h1
      · rw [hl] at h1; cases h1
      · exact h1
    | succ i => exact preOk_get hk.2 i p j (by simpa using hp) (by simpa using hj) hl

theorem distinctM_ok : ∀ {l : List Nat} {m : Nat}, distinctM l m = true → l.Nodup ∧ ∀ j ∈ l, Nat.testBit m j = false
  | [], _, _ => ⟨List.nodup_nil, fun _ h => by cases h⟩
  | j :: l, m, h => by
    simp only [distinctM, Bool.and_eq_true, Bool.not_eq_true'] at h
    obtain ⟨g1, g2⟩ := distinctM_ok h.2
    refine ⟨List.nodup_cons.2 ⟨fun hm => ?_, g1⟩, fun i hi => ?_⟩
    · have := g2 j hm
      rw [Nat.testBit_or, Nat.testBit_two_pow] at this
      simp at this
    · rcases List.mem_cons.1 hi with rfl | hi
      · exact h.1
      · have := g2 i hi
        rw [Nat.testBit_or] at this
        simp at this
        exact this.1

/-- Is the name one whose block is turned, or new? -/
def lv (pre : List LB) (i : Nat) : Bool := match pre[i]? with | some p => p.live | none => true

theorem mem_prs : ∀ {pre post : List LB} {js : List Nat} {j : Nat} {q : LB}, (j, q) ∈ prs pre post js → ∃ i : Nat, js[i]? = some j ∧ post[i]? = some q ∧ lv pre i = true
  | p :: pre, q0 :: post, j0 :: js, j, q, h => by
    have h : (j, q) ∈ @Bool.rec (fun _ => List (Nat × LB)) (prs pre post js) ((j0, q0) :: prs pre post js) p.live := h
    cases hp : p.live with
    | false =>
      rw [hp] at h
      obtain ⟨i, h1, h2, h3⟩ := mem_prs (show (j, q) ∈ prs pre post js from h)
      exact ⟨i + 1, by simpa using h1, by simpa using h2, by simpa [lv] using h3⟩
    | true =>
      rw [hp] at h
      rcases List.mem_cons.1 (show (j, q) ∈ (j0, q0) :: prs pre post js from h) with e | h
      · cases e; exact ⟨0, rfl, rfl, by simp [lv, hp]⟩
      · obtain ⟨i, h1, h2, h3⟩ := mem_prs h
        exact ⟨i + 1, by simpa using h1, by simpa using h2, by simpa [lv] using h3⟩
  | [], q0 :: post, j0 :: js, j, q, h => by
    rcases List.mem_cons.1 (show (j, q) ∈ (j0, q0) :: prs [] post js from h) with e | h
    · cases e; exact ⟨0, rfl, rfl, rfl⟩
    · obtain ⟨i, h1, h2, h3⟩ := mem_prs h
      exact ⟨i + 1, by simpa using h1, by simpa using h2, by simp [lv]⟩
  | [], [], _, _, _, h => by cases h
  | _ :: _, [], _, _, _, h => by cases h
  | [], _ :: _, [], _, _, h => by cases h
  | _ :: _, _ :: _, [], _, _, h => by cases h
theorem prs_mem : ∀ {pre post : List LB} {js : List Nat} {i j : Nat} {q : LB}, js[i]? = some j → post[i]? = some q → lv pre i = true → (j, q) ∈ prs pre post js
  | p :: pre, q0 :: post, j0 :: js, 0, j, q, h1, h2, h3 => by
    simp at h1 h2; subst h1 h2
    have h3 : p.live = true := h3
    show (j0, q0) ∈ @Bool.rec (fun _ => List (Nat × LB)) (prs pre post js) ((j0, q0) :: prs pre post js) p.live
    rw [h3]; simp
  | p :: pre, q0 :: post, j0 :: js, i + 1, j, q, h1, h2, h3 => by
    have := prs_mem (pre := pre) (post := post) (js := js) (i := i) (j := j) (q := q) (by simpa using h1) (by simpa using h2) (by simpa [lv] using h3)
    show (j, q) ∈ @Bool.rec (fun _ => List (Nat × LB)) (prs pre post js) ((j0, q0) :: prs pre post js) p.live
    cases p.live
    · exact this
    · simp [this]
  | [], q0 :: post, j0 :: js, 0, j, q, h1, h2, _ => by
    simp at h1 h2; subst h1 h2
    show (j0, q0) ∈ (j0, q0) :: prs [] post js
    simp
  | [], q0 :: post, j0 :: js, i + 1, j, q, h1, h2, _ => by
    have := prs_mem (pre := []) (post := post) (js := js) (i := i) (j := j) (q := q) (by simpa using h1) (by simpa using h2) (by simp [lv])
    show (j, q) ∈ (j0, q0) :: prs [] post js
    simp [this]
  | _, [], _, i, _, _, _, h2, _ => by simp at h2
  | _, _ :: _, [], i, _, _, h1, _, _ => by simp at h1

theorem mem_sets : ∀ {pre post : List LB} {js : List Nat} {kp : List Bool} {j : Nat} {q : LB}, (j, q) ∈ sets pre post js kp → ∃ i : Nat, js[i]? = some j ∧ post[i]? = some q ∧ lv pre i = true ∧ (pre[i]?.isSome = true → kp[i]? = some false)
  | p :: pre, q0 :: post, j0 :: js, b :: kp, j, q, h => by
    have h : (j, q) ∈ @Bool.rec (fun _ => List (Nat × LB)) (sets pre post js kp) ((j0, q0) :: sets pre post js kp) (p.live && !b) := h
    cases hp : (p.live && !b) with
    | false =>
      rw [hp] at h
      obtain ⟨i, h1, h2, h3, h4⟩ := mem_sets (show (j, q) ∈ sets pre post js kp from h)
      exact ⟨i + 1, by simpa using h1, by simpa using h2, by simpa [lv] using h3, by simpa using h4⟩
    | true =>
      rw [hp] at h
      simp only [Bool.and_eq_true, Bool.not_eq_true'] at hp
      rcases List.mem_cons.1 (show (j, q) ∈ (j0, q0) :: sets pre post js kp from h) with e | h
      · cases e; exact ⟨0, rfl, rfl, by simp [lv, hp.1], fun _ => by rw [hp.2]; rfl⟩
      · obtain ⟨i, h1, h2, h3, h4⟩ := mem_sets h
        exact ⟨i + 1, by simpa using h1, by simpa using h2, by simpa [lv] using h3, by simpa using h4⟩
  | [], q0 :: post, j0 :: js, _, j, q, h => by
    rcases List.mem_cons.1 (show (j, q) ∈ (j0, q0) :: sets [] post js [] from h) with e | h
    · cases e; exact ⟨0, rfl, rfl, rfl, fun h => by simp at h⟩
    · obtain ⟨i, h1, h2, h3, h4⟩ := mem_sets h
      exact ⟨i + 1, by simpa using h1, by simpa using h2, by simp [lv], fun h => by simp at h⟩
  | [], [], _, _, _, _, h => by cases h
  | _ :: _, [], _, _, _, _, h => by cases h
  | [], _ :: _, [], _, _, _, h => by cases h
  | _ :: _, _ :: _, [], _, _, _, h => by cases h
  | _ :: _, _ :: _, _ :: _, [], _, _, h => by cases h
theorem sets_mem : ∀ {pre post : List LB} {js : List Nat} {kp : List Bool} {i j : Nat} {q : LB}, js[i]? = some j → post[i]? = some q → lv pre i = true → (∀ p, pre[i]? = some p → kp[i]? = some false) → kp.length = pre.length →
    (j, q) ∈ sets pre post js kp
  | p :: pre, q0 :: post, j0 :: js, b :: kp, 0, j, q, h1, h2, h3, h4, _ => by
    simp at h1 h2; subst h1 h2
    have h3 : p.live = true := h3
    have hb : b = false := by have := h4 p rfl; simpa using this
    show (j0, q0) ∈ @Bool.rec (fun _ => List (Nat × LB)) (sets pre post js kp) ((j0, q0) :: sets pre post js kp) (p.live && !b)
    rw [h3, hb]; simp
  | p :: pre, q0 :: post, j0 :: js, b :: kp, i + 1, j, q, h1, h2, h3, h4, h5 => by
    have := sets_mem (pre := pre) (post := post) (js := js) (kp := kp) (i := i) (j := j) (q := q) (by simpa using h1) (by simpa using h2) (by simpa [lv] using h3) (fun p hp => by have := h4 p (by simpa using hp); simpa using this) (by simpa using h5)
    show (j, q) ∈ @Bool.rec (fun _ => List (Nat × LB)) (sets pre post js kp) ((j0, q0) :: sets pre post js kp) (p.live && !b)
    cases (p.live && !b)
    · exact this
    · simp [this]
  | [], q0 :: post, j0 :: js, kp, 0, j, q, h1, h2, _, _, _ => by
    simp at h1 h2; subst h1 h2
    show (j0, q0) ∈ (j0, q0) :: sets [] post js []
    simp
  | [], q0 :: post, j0 :: js, kp, i + 1, j, q, h1, h2, _, _, _ => by
    have := sets_mem (pre := []) (post := post) (js := js) (kp := []) (i := i) (j := j) (q := q) (by simpa using h1) (by simpa using h2) (by simp [lv]) (fun p hp => by simp at hp) rfl
    show (j, q) ∈ (j0, q0) :: sets [] post js []
    simp [this]
  | _ :: _, _ :: _, _ :: _, [], _, _, _, _, _, _, _, h5 => by simp at h5
  | _, [], _, _, i, _, _, _, h2, _, _, _ => by simp at h2
  | _, _ :: _, [], _, i, _, _, h1, _, _, _, _ => by simp at h1
theorem sets_sub : ∀ {pre post : List LB} {js : List Nat} {kp : List Bool}, (sets pre post js kp).Sublist (prs pre post js)
  | p :: pre, q0 :: post, j0 :: js, b :: kp => by
    have ih := sets_sub (pre := pre) (post := post) (js := js) (kp := kp)
    show (@Bool.rec (fun _ => List (Nat × LB)) (sets pre post js kp) ((j0, q0) :: sets pre post js kp) (p.live && !b)).Sublist (@Bool.rec (fun _ => List (Nat × LB)) (prs pre post js) ((j0, q0) :: prs pre post js) p.live)
    cases p.live
    · exact ih
    · cases b
      · exact ih.cons_cons _
      · exact ih.cons _
  | [], q0 :: post, j0 :: js, _ => by
    have ih := sets_sub (pre := []) (post := post) (js := js) (kp := [])
    exact ih.cons_cons (j0, q0)
  | [], [], _, _ => by simp [sets, prs]
  | _ :: _, [], _, _ => by simp [sets]
  | [], _ :: _, [], _ => by simp [sets]
  | _ :: _, _ :: _, [], _ => by simp [sets]
  | _ :: _, _ :: _, _ :: _, [] => by simp [sets]

theorem kpOk_get {n : Nat} : ∀ {pre post : List LB} {kp : List Bool}, kpOk n pre post kp = true → kp.length = pre.length ∧ ∀ (i : Nat), kp[i]? = some true → ∃ l, pre[i]? = some (.cells l) ∧ post[i]? = some (.cells l) ∧ belowAs n l = true
  | [], _, [], _ => ⟨rfl, fun i h => by simp at h⟩
  | [], _, _ :: _, h => by simp [kpOk] at h
  | _ :: _, [], _, h => by simp [kpOk] at h
  | _ :: _, _ :: _, [], h => by simp [kpOk] at h
  | p :: pre, q :: post, b :: kp, h => by
    simp only [kpOk, Bool.and_eq_true, Bool.or_eq_true, Bool.not_eq_true'] at h
    obtain ⟨g1, g2⟩ := kpOk_get h.2
    refine ⟨by simp [g1], fun i hi => ?_⟩
    cases i with
    | zero =>
      simp at hi; subst hi
      rcases h.1 with h1 | h1
      · cases h1
      · split at h1
        · rename_i l m
          simp only [Bool.and_eq_true] at h1
          have := avsEq_eq _ _ h1.1
          subst this
          exact ⟨l, rfl, rfl, h1.2⟩
        · cases h1
    | succ i =>
      obtain ⟨l, h1, h2, h3⟩ := g2 i (by simpa using hi)
      exact ⟨l, by simpa using h1, by simpa using h2, h3⟩

/-- A block that is as it was. -/
theorem BR_keep {ρ ρ' : Ren} {σ : List Nat} {N : Nat} (hσ : ∀ i L, i < N → ρ i = some L → ρ' (sg σ i) = some L) {h h' : H} {b b1 : Blk} {l : List AV} {L : Loc} {hp : Array Obj} (hs : sameB b (LB.ren σ (.cells l)) = true)
    (hs1 : SameP b1 (.cells l)) (hb : belowAs N l = true) (hB : BR ρ h b1 L hp) : BR ρ' h' b L hp := by
  obtain ⟨t, z, rfl, hc⟩ := sameB_cells hs
  obtain ⟨t1, z1, rfl, hc1⟩ := hs1
  obtain ⟨c, e, fr, g1, g2, g3, g4, g5⟩ := hB
  rw [renAs_length] at hc
  refine ⟨c, e, fr, g1, g2, by rw [renAs_length]; exact g3, g4, fun i hi => ?_⟩
  rw [renAs_length] at hi
  obtain ⟨a, ha, v, hv, hr, hf⟩ := g5 i hi
  rw [hc1 i hi] at ha
  exact ⟨renA σ a, by rw [hc i hi, renAs_get, ha]; rfl, v, hv, VR_ren hσ a (belowAs_get hb ha) hr, hf⟩

theorem setAll_true {h0 : H} {σ1 : List Nat} {k : H → Bool} : ∀ {l : List (Nat × LB)} {h : H}, setAll h0 σ1 l h k = true → (l.map (·.1)).Nodup → (∀ p ∈ l, p.1 < 3584) →
    ∃ h', k h' = true ∧ (∀ p ∈ l, h'.get p.1 = outB h0 p.1 σ1 p.2) ∧ ∀ j, j ∉ l.map (·.1) → h'.get j = h.get j
  | [], h, hk, _, _ => ⟨h, hk, fun _ h => (by cases h), fun _ _ => rfl⟩
  | p :: l, h, hk, hn, hlt => by
    have hk : (h.setK p.1 (outB h0 p.1 σ1 p.2) fun h => setAll h0 σ1 l h k) = true := hk
    rw [H.setK_eq] at hk
    rw [List.map_cons, List.nodup_cons] at hn
    have hp := hlt p (by simp)
    obtain ⟨h', g1, g2, g3⟩ := setAll_true hk hn.2 fun q hq => hlt q (by simp [hq])
    refine ⟨h', g1, fun q hq => ?_, fun j hj => ?_⟩
    · rcases List.mem_cons.1 hq with rfl | hq
      · rw [g3 _ hn.1, H.get_set_same]
      · exact g2 q hq
    · rw [List.map_cons, List.mem_cons, not_or] at hj
      rw [g3 j hj.2, H.get_set_ne _ _ hp hj.1]

theorem kindOk_get : ∀ {pre post : List LB}, kindOk pre post = true → ∀ (i : Nat) (p q : LB), pre[i]? = some p → post[i]? = some q → p.live = true → q.isMap = true → p.isMap = true
  | [], _, _, i, p, q, hp, _, _, _ => by simp at hp
  | a :: pre, [], h, _, _, _, _, _, _, _ => by cases h
  | a :: pre, b :: post, h, i, p, q, hp, hq, hl, hm => by
    simp only [kindOk, Bool.and_eq_true, Bool.or_eq_true, Bool.not_eq_true'] at h
    cases i with
    | zero =>
      simp at hp hq; subst hp hq
      rcases h.1 with (h1 | h1) | h1
      · rw [hm] at h1; cases h1
      · exact h1
      · rw [hl] at h1; cases h1
    | succ i => exact kindOk_get h.2 i p q (by simpa using hp) (by simpa using hq) hl hm

end Go.Proofs.YtfcoffpmcmhieaaGreatDoor.AI
namespace Go.Proofs.YtfcoffpmcmhieaaGreatDoor.AI
variable {P : Program}

/-- The lemma is true. -/
def LemOK (P : Program) (L : Lem) : Prop :=
  (∃ fn body, P.funcs[L.fn]? = some fn ∧ fn.body = some body) ∧
  ∀ {ρ : Ren} {cargs : Array Value} {w : World} {E : Nat → Option Obj} {hL : H}, (∀ j, hL.get j = preOf L.pre j) → VRs ρ L.args cargs.toList → HS ρ hL L.pre.length w.heap E → ∀ base : List Frame,
    ∃ cv h1 nx1 ρ1 w1 fr, (∀ (i : Nat) (q : LB), L.post[i]? = some q → SameP (h1.get i) q) ∧ Steps P (lone (Frame.enter P L.fn cargs .normal) base w) (lone fr base w1) ∧ fr.fn = L.fn ∧ fr.leaving P w1 (.returned cv) ∧
      VR ρ1 L.res cv ∧ HS ρ1 h1 nx1 w1.heap E ∧ ρ.ext L.pre.length ρ1 ∧ SO w w1

/-- The blocks that are named, under the names that they are given. -/
theorem HS.sub {ρ : Ren} {h : H} {nx : Nat} {hp : Array Obj} {E : Nat → Option Obj} (hs : HS ρ h nx hp E) {τ : List Nat} {post : List LB} (hlen : τ.length = post.length) (h8 : 8 ≤ post.length) (hmax : post.length ≤ 3583)
    (hg8 : ∀ g, g < 8 → sg τ g = g) (hsame : ∀ (i j : Nat) (q : LB), post[i]? = some q → τ[i]? = some j → q.live = true → sameB (h.get j) (q.ren τ) = true) (hnd : (liveNames post τ).Nodup) {hL : H} (hget : ∀ j, hL.get j = preOf post j) :
    HS (fun i => if i < post.length then ρ (sg τ i) else none) hL post.length hp E := by
  have hτget : ∀ i, i < τ.length → τ[i]? = some (sg τ i) := fun i hi => by unfold sg; rw [List.getElem?_eq_getElem hi]; rfl
  have h3583 : ρ 3583 = none := by
    cases e : ρ 3583 with
    | none => rfl
    | some K => have := hs.dom _ K e; have := hs.nx_le; omega
  have hρL : ∀ i K, (if i < post.length then ρ (sg τ i) else none) = some K → i < post.length ∧ ρ (sg τ i) = some K := fun i K hi => by
    split at hi
    · rename_i hlt; exact ⟨hlt, hi⟩
    · cases hi
  have hun : ∀ i K, ρ (sg τ i) = some K → (if i < post.length then ρ (sg τ i) else none) = some K := fun i K hi => by
    by_cases hlt : i < post.length
    · rw [if_pos hlt]; exact hi
    · have : sg τ i = 3583 := by unfold sg; rw [List.getElem?_eq_none (by omega)]; rfl
      rw [this, h3583] at hi; cases hi
  have hlive : ∀ i, hL.get i ≠ .dead → ∃ p, post[i]? = some p ∧ p.live = true ∧ hL.get i = p.blk ∧ sameB (h.get (sg τ i)) (p.ren τ) = true := fun i hi => by
    rw [hget] at hi
    unfold preOf at hi
    cases hp : post[i]? with
    | none => rw [hp] at hi; exact absurd rfl hi
    | some p =>
      rw [hp] at hi
      have hl : p.live = true := by cases p <;> first | rfl | exact absurd rfl hi
      have hlt : i < post.length := (List.getElem?_eq_some_iff.1 hp).1
      exact ⟨p, rfl, hl, by rw [hget]; unfold preOf; rw [hp], hsame i _ p hp (hτget i (by omega)) hl⟩
  have hcur : ∀ i, hL.get i ≠ .dead → h.get (sg τ i) ≠ .dead := fun i hi => by
    obtain ⟨p, _, hl, _, hsm⟩ := hlive i hi
    exact sameB_live hsm (by cases p <;> first | rfl | cases hl)
  refine ⟨fun i K hi => (hρL i K hi).1, hmax, fun g K hg hi => ?_, h8, fun i K hi hl => ?_, fun i j Li Lj hi hj hne hLi hLj => ?_, fun b o hb => ?_, fun g hg hl => ?_⟩
  · have := (hρL g K hi).2
    rw [hg8 g hg] at this
    exact hs.glob g K hg this
  · obtain ⟨p, hp, hlp, hbk, hsm⟩ := hlive i hl
    obtain ⟨hB, hsz⟩ := hs.live _ K (hρL i K hi).2 (hcur i hl)
    rw [hbk]
    exact ⟨BR_unren hun hsm hlp hB, hsz⟩
  · obtain ⟨p, hp, hlp, _⟩ := hlive i hi
    obtain ⟨q, hq, hlq, _⟩ := hlive j hj
    have hi1 := (List.getElem?_eq_some_iff.1 hp).1
    have hj1 := (List.getElem?_eq_some_iff.1 hq).1
    refine hs.inj _ _ Li Lj (hcur i hi) (hcur j hj) (fun e => hne ?_) (hρL i Li hLi).2 (hρL j Lj hLj).2
    exact liveNames_inj hnd i j _ p q hp hq (hτget i (by omega)) (by rw [e]; exact hτget j (by omega)) hlp hlq
  · obtain ⟨e1, e2⟩ := hs.ext b o hb
    exact ⟨e1, fun i Ki hi hKi => e2 _ Ki (hcur i hi) (hρL i Ki hKi).2⟩
  · have hgl := hcur g hl
    rw [hg8 g hg] at hgl
    obtain ⟨K, hK⟩ := hs.glive g hg hgl
    exact ⟨K, by rw [if_pos (by omega), hg8 g hg]; exact hK⟩

/-- The rest of a run is sound, whatever lies there. -/
def AG (P : Program) (m0 : Nat) (post : AV → H → Bool) (go : Go) : Prop :=
  ∀ (E : Nat → Option Obj) (wz : World) (ρ0 : Ren) (f0 : FuncId) (base : List Frame), (∀ i K, ρ0 i = some K → i < m0) → Good P E wz ρ0 m0 f0 base post go

theorem AG_run (hn : NoCount P) (hmix : P.follows .mixedOrders = true) {X : Ext} (hX : ExtOK P X) {m0 : Nat} {post : AV → H → Bool} (n : Nat) : AG P m0 post (run P X post n) :=
  fun E wz ρ0 f0 base _ => run_good hn hmix hX E wz ρ0 m0 f0 base post n

theorem lem_of_AG {go : Go} {L : Lem} {news : List Nat} (hG : AG P L.pre.length (postOf L news) go) (hl : lemOk L = true)
    (hk : layH L.pre 0 H.empty (fun h => enterA P L.fn L.args .normal [] h L.pre.length go) = true) : LemOK P L := by
  have hl0 := hl
  unfold lemOk at hl
  simp only [Bool.and_eq_true, Nat.ble_eq] at hl
  obtain ⟨⟨⟨⟨⟨⟨h8, hpp⟩, hpost⟩, hbres⟩, hbpost⟩, hkind⟩, _⟩ := hl
  obtain ⟨h0, hk0, hg0⟩ := layH_pre hk (by omega)
  obtain ⟨fn, hf, hk2⟩ := onSome_true (show onSome (P.funcs[L.fn]?) _ = true from hk0)
  obtain ⟨body, hbody, _⟩ := onSome_true hk2
  refine ⟨⟨fn, body, hf, hbody⟩, fun {ρ cargs w E hL} hg ha hs base => ?_⟩
  have hs0 : HS ρ h0 L.pre.length w.heap E := hs.congr fun j => by rw [hg0, hg]
  obtain ⟨v, cv, h1, nx1, ρ1, w1, fr, g1, g2, g3, g4, g5, g6, g7, g8, g9⟩ := enterA_ok (hG E w ρ L.fn base fun i K hi => hs.dom i K hi) hk0 (callers := []) ha ⟨rfl, Nat.le_refl _⟩ hs0 rfl (Ren.ext_refl _ _) (SO.refl w)
  unfold postOf at g1
  simp only [Bool.and_eq_true, Nat.beq_eq] at g1
  generalize hτ : List.range L.pre.length ++ news = τ at g1
  obtain ⟨⟨⟨q1, q2⟩, q3⟩, q4⟩ := g1
  have hv := avEq_eq _ _ q1
  subst hv
  have hτlt : ∀ i, i < L.pre.length → sg τ i = i := fun i hi => by
    rw [← hτ]
    unfold sg
    rw [List.getElem?_append_left (by simpa using hi), List.getElem?_range hi]
    rfl
  obtain ⟨hLh, _, hget⟩ := layH_pre (layH_ex L.post 0 H.empty) (by omega)
  have hsub := g6.sub (τ := τ) (post := L.post) q2 (by omega) hpost (fun g hg => hτlt g (by omega)) (fun i j q hq hj hlv => sameAll_get q3 i j q hq hj hlv) (distinctM_ok q4).1 hget
  have h3583 : ρ1 3583 = none := by
    cases e : ρ1 3583 with
    | none => rfl
    | some K => have := g6.dom _ K e; have := g6.nx_le; omega
  refine ⟨cv, hLh, L.post.length, _, w1, fr, fun i q hq => ?_, g2, g3, g4, VR_unren (ρ := fun i => if i < L.post.length then ρ1 (sg τ i) else none) (fun i K hi => ?_) _ g5, hsub, ⟨fun i K hi => ?_, fun i hi => ?_⟩, g9⟩
  · rw [hget]
    unfold preOf
    rw [hq]
    exact SameP.self q
  · by_cases hlt : i < L.post.length
    · show (if i < L.post.length then ρ1 (sg τ i) else none) = some K
      rw [if_pos hlt]; exact hi
    · have : sg τ i = 3583 := by unfold sg; rw [List.getElem?_eq_none (by omega)]; rfl
      rw [this, h3583] at hi; cases hi
  · have hlt := hs.dom i K hi
    show (if i < L.post.length then ρ1 (sg τ i) else none) = some K
    rw [if_pos (by omega), hτlt i hlt]
    exact g7.1 i K hi
  · show (if i < L.post.length then ρ1 (sg τ i) else none) = ρ i
    rw [if_pos (by omega), hτlt i hi]
    exact g7.2 i hi

theorem lem_of_run (hn : NoCount P) (hmix : P.follows .mixedOrders = true) {X : Ext} (hX : ExtOK P X) {L : Lem} {news : List Nat} {n : Nat} (hl : lemOk L = true)
    (hk : layH L.pre 0 H.empty (fun h => enterA P L.fn L.args .normal [] h L.pre.length (run P X (postOf L news) n)) = true) : LemOK P L :=
  lem_of_AG (AG_run hn hmix hX n) hl hk

theorem sg_append {σ : List Nat} {nx c i : Nat} : sg (σ ++ List.range' nx c) i = if i < σ.length then sg σ i else if i - σ.length < c then nx + (i - σ.length) else 3583 := by
  unfold sg
  by_cases h : i < σ.length
  · rw [if_pos h, List.getElem?_append_left h]
  · rw [if_neg h, List.getElem?_append_right (by omega)]
    by_cases h2 : i - σ.length < c
    · rw [if_pos h2, List.getElem?_range' h2]; simp
    · rw [if_neg h2, List.getElem?_eq_none (by simp; omega)]; rfl

section
variable {L : Lem} {σ : List Nat} {args : List AV} {h : H} {nx : Nat}

theorem useWith_ok (hL : LemOK P L) (hlem : lemOk L = true) {k : AV → H → Nat → Bool} {fb : Unit → Bool} (hk : useWith L args h nx k fb σ = true) : fb () = true ∨
    ∀ {ρ : Ren} {cargs : Array Value} {w : World} {E : Nat → Option Obj}, VRs ρ args cargs.toList → HS ρ h nx w.heap E →
      (∃ fn body, P.funcs[L.fn]? = some fn ∧ fn.body = some body) ∧ ∀ base : List Frame, ∃ v cv h' nx' ρ' w' fr, k v h' nx' = true ∧ Steps P (lone (Frame.enter P L.fn cargs .normal) base w) (lone fr base w') ∧ fr.fn = L.fn ∧
        fr.leaving P w' (.returned cv) ∧ VR ρ' v cv ∧ HS ρ' h' nx' w'.heap E ∧ ρ.ext nx ρ' ∧ nx ≤ nx' ∧ SO w w' := by
  unfold useWith at hk
  simp only at hk
  generalize hc : L.post.length - L.pre.length = c at hk
  generalize hσ1 : σ ++ List.range' nx c = σ1 at hk
  rcases ite_true' hk with ⟨hv, hk⟩ | ⟨_, hk⟩
  · refine .inr fun {ρ cargs w E} ha hs => ⟨hL.1, fun base => ?_⟩
    -- the conditions
    unfold verify at hv
    simp only [Bool.and_eq_true, Nat.beq_eq, Nat.ble_eq] at hv
    obtain ⟨⟨⟨⟨⟨hargs, hlen⟩, hfirst⟩, hroom⟩, hpre⟩, hdist⟩ := hv
    have hargs := avsEq_eq _ _ hargs
    rw [hc] at hroom
    unfold lemOk at hlem
    simp only [Bool.and_eq_true, Nat.ble_eq] at hlem
    obtain ⟨⟨⟨⟨⟨⟨h8, hpp⟩, hpost⟩, hbres⟩, hbpost⟩, hkind⟩, hkp⟩ := hlem
    obtain ⟨hkl, hkget⟩ := kpOk_get hkp
    obtain ⟨hnodup, _⟩ := distinctM_ok hdist
    have hg8 : ∀ g, g < 8 → sg σ g = g := fun g hg => by
      have := List.all_eq_true.1 hfirst g (List.mem_range.2 hg)
      simpa using this
    have hσget : ∀ i, i < σ.length → σ[i]? = some (sg σ i) := fun i hi => by unfold sg; rw [List.getElem?_eq_getElem hi]; rfl
    have hσ1len : σ1.length = L.post.length := by rw [← hσ1]; simp; omega
    have hσ1 : ∀ i, sg σ1 i = if i < σ.length then sg σ i else if i - σ.length < c then nx + (i - σ.length) else 3583 := fun i => by rw [← hσ1]; exact sg_append
    have hσ1get : ∀ i, i < σ1.length → σ1[i]? = some (sg σ1 i) := fun i hi => by unfold sg; rw [List.getElem?_eq_getElem hi]; rfl
    have h3583 : ρ 3583 = none := by
      cases e : ρ 3583 with
      | none => rfl
      | some K => have := hs.dom _ K e; have := hs.nx_le; omega
    -- the lemma's heap
    let ρL : Ren := fun i => if i < L.pre.length then ρ (sg σ i) else none
    obtain ⟨hLh, _, hget⟩ := layH_pre (layH_ex L.pre 0 H.empty) (by omega)
    have hun : ∀ i K, ρ (sg σ i) = some K → ρL i = some K := fun i K hi => by
      show (if i < L.pre.length then ρ (sg σ i) else none) = some K
      by_cases hlt : i < L.pre.length
      · rw [if_pos hlt]; exact hi
      · have : sg σ i = 3583 := by unfold sg; rw [List.getElem?_eq_none (by omega)]; rfl
        rw [this, h3583] at hi; cases hi
    have hρL : ∀ i K, ρL i = some K → i < L.pre.length ∧ ρ (sg σ i) = some K := fun i K hi => by
      have hi : (if i < L.pre.length then ρ (sg σ i) else none) = some K := hi
      split at hi
      · rename_i hlt; exact ⟨hlt, hi⟩
      · cases hi
    have hlive : ∀ i, hLh.get i ≠ .dead → ∃ p, L.pre[i]? = some p ∧ p.live = true ∧ hLh.get i = p.blk ∧ sg σ i < nx ∧ sameB (h.get (sg σ i)) (p.ren σ) = true := fun i hi => by
      rw [hget] at hi
      unfold preOf at hi
      cases hp : L.pre[i]? with
      | none => rw [hp] at hi; exact absurd rfl hi
      | some p =>
        rw [hp] at hi
        have hl : p.live = true := by cases p <;> first | rfl | exact absurd rfl hi
        have hlt : i < L.pre.length := (List.getElem?_eq_some_iff.1 hp).1
        obtain ⟨g1, g2⟩ := preOk_get hpre i p _ hp (hσget i (by omega)) hl
        exact ⟨p, rfl, hl, by rw [hget]; unfold preOf; rw [hp], g1, g2⟩
    have hren_live : ∀ (p : LB) (τ : List Nat), p.live = true → (p.ren τ).live = true := fun p τ hp => by cases p <;> first | rfl | cases hp
    have hcur : ∀ i, hLh.get i ≠ .dead → h.get (sg σ i) ≠ .dead := fun i hi => by
      obtain ⟨p, _, hl, _, _, hsm⟩ := hlive i hi
      exact sameB_live hsm (hren_live p σ hl)
    -- names of what is turned
    have hinP : ∀ i, hLh.get i ≠ .dead → sg σ i ∈ (prs L.pre L.post σ1).map (·.1) := fun i hi => by
      obtain ⟨p, hp, hl, _, _, _⟩ := hlive i hi
      have hlt : i < L.pre.length := (List.getElem?_eq_some_iff.1 hp).1
      have hq : L.post[i]? = some L.post[i] := List.getElem?_eq_getElem (by omega)
      have hj : σ1[i]? = some (sg σ i) := by rw [hσ1get i (by omega), hσ1, if_pos (by omega)]
      exact List.mem_map.2 ⟨_, prs_mem hj hq (by unfold lv; rw [hp]; exact hl), rfl⟩
    have hidx : ∀ (i i' : Nat), lv L.pre i = true → lv L.pre i' = true → i < σ1.length → i' < σ1.length → sg σ1 i = sg σ1 i' → i = i' := by
      intro i i' hl hl' hi hi' e
      have key : ∀ {pre post : List LB} {js : List Nat}, ((prs pre post js).map (·.1)).Nodup → js.length = post.length → ∀ (i i' j : Nat), lv pre i = true → lv pre i' = true → js[i]? = some j → js[i']? = some j → i < i' → False := by
        intro pre
        induction pre with
        | nil =>
          intro post
          induction post with
          | nil => intro js _ hjl i i' j _ _ h1 h2 _; have : js = [] := List.eq_nil_of_length_eq_zero (by simpa using hjl); subst this; simp at h1
          | cons q post ih =>
            intro js hnd hjl i i' j hl hl' h1 h2 hlt
            cases js with
            | nil => simp at h1
            | cons j0 js =>
              have hnd : (j0 :: (prs [] post js).map (·.1)).Nodup := hnd
              rw [List.nodup_cons] at hnd
              have hjl : js.length = post.length := by simpa using hjl
              obtain ⟨i'', rfl⟩ : ∃ q, i' = q + 1 := ⟨i' - 1, by omega⟩
              have h2 : js[i'']? = some j := by simpa using h2
              cases i with
              | zero =>
                simp at h1; subst h1
                have hlt2 : i'' < post.length := by have := (List.getElem?_eq_some_iff.1 h2).1; omega
                exact hnd.1 (List.mem_map.2 ⟨_, prs_mem h2 (List.getElem?_eq_getElem hlt2) (by simp [lv]), rfl⟩)
              | succ i => exact ih hnd.2 hjl i i'' j (by simp [lv]) (by simp [lv]) (by simpa using h1) h2 (by omega)
        | cons p pre ih =>
          intro post js hnd hjl i i' j hl hl' h1 h2 hlt
          cases js with
          | nil => simp at h1
          | cons j0 js =>
            cases post with
            | nil => simp at hjl
            | cons q post =>
              have hjl : js.length = post.length := by simpa using hjl
              obtain ⟨i'', rfl⟩ : ∃ q, i' = q + 1 := ⟨i' - 1, by omega⟩
              have h2 : js[i'']? = some j := by simpa using h2
              have hl' : lv pre i'' = true := by simpa [lv] using hl'
              have hnd : ((@Bool.rec (fun _ => List (Nat × LB)) (prs pre post js) ((j0, q) :: prs pre post js) p.live).map (·.1)).Nodup := hnd
              have hlt2 : i'' < post.length := by have := (List.getElem?_eq_some_iff.1 h2).1; omega
              cases i with
              | zero =>
                simp at h1; subst h1
                have hl : p.live = true := hl
                rw [hl] at hnd
                have hnd : (j0 :: (prs pre post js).map (·.1)).Nodup := hnd
                rw [List.nodup_cons] at hnd
                exact hnd.1 (List.mem_map.2 ⟨_, prs_mem h2 (List.getElem?_eq_getElem hlt2) hl', rfl⟩)
              | succ i =>
                have hnd' : ((prs pre post js).map (·.1)).Nodup := by
                  cases hp : p.live with
                  | false => rw [hp] at hnd; exact hnd
                  | true =>
                    rw [hp] at hnd
                    have hnd : (j0 :: (prs pre post js).map (·.1)).Nodup := hnd
                    exact (List.nodup_cons.1 hnd).2
                exact ih hnd' hjl i i'' j (by simpa [lv] using hl) hl' (by simpa using h1) h2 (by omega)
      rcases Nat.lt_trichotomy i i' with hlt | rfl | hlt
      · exact (key hnodup hσ1len i i' _ hl hl' (hσ1get i hi) (by rw [e]; exact hσ1get i' hi') hlt).elim
      · rfl
      · exact (key hnodup hσ1len i' i _ hl' hl (hσ1get i' hi') (by rw [← e]; exact hσ1get i hi) hlt).elim
    -- what lies apart
    have hdec : ∀ b : Nat, ∃ o : Option Obj, ((E b).isSome = true ∨ (∃ j K, ρ j = some K ∧ h.get j ≠ .dead ∧ K.blk = b ∧ j ∉ (prs L.pre L.post σ1).map (·.1)) → o = w.heap[b]?) ∧
        (¬ ((E b).isSome = true ∨ ∃ j K, ρ j = some K ∧ h.get j ≠ .dead ∧ K.blk = b ∧ j ∉ (prs L.pre L.post σ1).map (·.1)) → o = none) := fun b => by
      by_cases hx : (E b).isSome = true ∨ ∃ j K, ρ j = some K ∧ h.get j ≠ .dead ∧ K.blk = b ∧ j ∉ (prs L.pre L.post σ1).map (·.1)
      · exact ⟨w.heap[b]?, fun _ => rfl, fun hn => absurd hx hn⟩
      · exact ⟨none, fun hy => absurd hy hx, fun _ => rfl⟩
    obtain ⟨EL, hEL⟩ := Classical.axiomOfChoice hdec
    have hs0 : HS ρL hLh L.pre.length w.heap EL := by
      refine ⟨fun i K hi => (hρL i K hi).1, by omega, fun g K hg hi => ?_, h8, fun i K hi hl => ?_, fun i j Li Lj hi hj hne hLi hLj => ?_, fun b o hb => ?_, fun g hg hl => ?_⟩
      · have := (hρL g K hi).2
        rw [hg8 g hg] at this
        exact hs.glob g K hg this
      · obtain ⟨p, hp, hlp, hbk, hlt, hsm⟩ := hlive i hl
        obtain ⟨hB, hsz⟩ := hs.live _ K (hρL i K hi).2 (hcur i hl)
        rw [hbk]
        exact ⟨BR_unren hun hsm hlp hB, hsz⟩
      · obtain ⟨p, hp, hlp, _⟩ := hlive i hi
        obtain ⟨q, hq, hlq, _⟩ := hlive j hj
        have hi1 := (List.getElem?_eq_some_iff.1 hp).1
        have hj1 := (List.getElem?_eq_some_iff.1 hq).1
        refine hs.inj _ _ Li Lj (hcur i hi) (hcur j hj) (fun e => hne ?_) (hρL i Li hLi).2 (hρL j Lj hLj).2
        refine hidx i j (by unfold lv; rw [hp]; exact hlp) (by unfold lv; rw [hq]; exact hlq) (by omega) (by omega) ?_
        rw [hσ1, hσ1, if_pos (by omega), if_pos (by omega)]; exact e
      · obtain ⟨e1, e2⟩ := hEL b
        by_cases hx : (E b).isSome = true ∨ ∃ j K, ρ j = some K ∧ h.get j ≠ .dead ∧ K.blk = b ∧ j ∉ (prs L.pre L.post σ1).map (·.1)
        · have := e1 hx
          rw [hb] at this
          refine ⟨this.symm, fun i Ki hi hKi e => ?_⟩
          have hρi := (hρL i Ki hKi).2
          rcases hx with hx | ⟨j, K, hj, hjl, hjb, hjn⟩
          · obtain ⟨o', ho'⟩ := Option.isSome_iff_exists.1 hx
            exact (hs.ext b o' ho').2 _ Ki (hcur i hi) hρi e
          · refine hs.inj _ j Ki K (hcur i hi) hjl (fun e' => ?_) hρi hj (by rw [e, hjb])
            exact hjn (by rw [← e']; exact hinP i hi)
        · rw [e2 hx] at hb; cases hb
      · obtain ⟨p, hp, hlp, _⟩ := hlive g hl
        have hgl := hcur g hl
        rw [hg8 g hg] at hgl
        obtain ⟨K, hK⟩ := hs.glive g hg hgl
        exact ⟨K, by
          show (if g < L.pre.length then ρ (sg σ g) else none) = some K
          rw [if_pos (by omega), hg8 g hg]; exact hK⟩
    have ha0 : VRs ρL L.args cargs.toList := by
      rw [← hargs] at ha
      exact VRs_unren hun _ ha
    obtain ⟨cv, h1, nx1, ρ1, w1, fr, hp1, hsteps, hfn, hleave, hvr, hs1, hext, hso⟩ := hL.2 hget ha0 hs0 base
    -- the names behind
    let ρ' : Ren := fun j => if j < nx then ρ j else if j < nx + c then ρ1 (L.pre.length + (j - nx)) else none
    have hρ'lt : ∀ j, j < nx → ρ' j = ρ j := fun j hj => if_pos hj
    have hF : ∀ i K, i < L.post.length → ρ1 i = some K → ρ' (sg σ1 i) = some K := fun i K hi h1 => by
      rw [hσ1]
      by_cases hlt : i < σ.length
      · rw [if_pos hlt]
        rw [hext.2 i (by omega)] at h1
        have := (hρL i K h1).2
        rw [hρ'lt _ (hs.dom _ K this)]; exact this
      · rw [if_neg hlt, if_pos (by omega)]
        show (if nx + (i - σ.length) < nx then ρ (nx + (i - σ.length)) else if nx + (i - σ.length) < nx + c then ρ1 (L.pre.length + (nx + (i - σ.length) - nx)) else none) = some K
        rw [if_neg (by omega), if_pos (by omega), show L.pre.length + (nx + (i - σ.length) - nx) = i by omega]
        exact h1
    have hle : ρ.ext nx ρ' := ⟨fun j K hj => by rw [hρ'lt j (hs.dom j K hj)]; exact hj, hρ'lt⟩
    -- what is turned
    have hback : ∀ (j : Nat) (q : LB) (K : Loc), (j, q) ∈ prs L.pre L.post σ1 → ρ' j = some K → ∃ i, σ1[i]? = some j ∧ L.post[i]? = some q ∧ lv L.pre i = true ∧ ρ1 i = some K := fun j q K hm hj => by
      obtain ⟨i, g1, g2, g3⟩ := mem_prs hm
      refine ⟨i, g1, g2, g3, ?_⟩
      have hilt := (List.getElem?_eq_some_iff.1 g1).1
      have hsg : sg σ1 i = j := by rw [hσ1get i hilt] at g1; exact Option.some.inj g1
      rw [hσ1] at hsg
      by_cases hlt : i < σ.length
      · rw [if_pos hlt] at hsg
        cases hp : L.pre[i]? with
        | none => have := List.getElem?_eq_none_iff.1 hp; omega
        | some p =>
          have hlp : p.live = true := by unfold lv at g3; rw [hp] at g3; exact g3
          obtain ⟨e1, _⟩ := preOk_get hpre i p _ hp (hσget i hlt) hlp
          rw [hsg] at e1
          rw [hρ'lt j e1, ← hsg] at hj
          exact hext.1 i K (hun i K hj)
      · rw [if_neg hlt, if_pos (by omega)] at hsg
        subst hsg
        have hj : (if nx + (i - σ.length) < nx then ρ (nx + (i - σ.length)) else if nx + (i - σ.length) < nx + c then ρ1 (L.pre.length + (nx + (i - σ.length) - nx)) else none) = some K := hj
        rw [if_neg (by omega), if_pos (by omega), show L.pre.length + (nx + (i - σ.length) - nx) = i by omega] at hj
        exact hj
    have hlt84 : ∀ p ∈ prs L.pre L.post σ1, p.1 < 3584 := fun ⟨j, q⟩ hm => by
      obtain ⟨i, g1, g2, g3⟩ := mem_prs hm
      have hilt := (List.getElem?_eq_some_iff.1 g1).1
      have hsg : sg σ1 i = j := by rw [hσ1get i hilt] at g1; exact Option.some.inj g1
      rw [hσ1] at hsg
      by_cases hlt : i < σ.length
      · rw [if_pos hlt] at hsg
        cases hp : L.pre[i]? with
        | none => have := List.getElem?_eq_none_iff.1 hp; omega
        | some p =>
          have hlp : p.live = true := by unfold lv at g3; rw [hp] at g3; exact g3
          obtain ⟨e1, _⟩ := preOk_get hpre i p _ hp (hσget i hlt) hlp
          have := hs.nx_le
          show j < 3584
          omega
      · rw [if_neg hlt, if_pos (by omega)] at hsg
        show j < 3584
        omega
    have hsubl := sets_sub (pre := L.pre) (post := L.post) (js := σ1) (kp := L.kp)
    obtain ⟨h', hk, hin0, hout0⟩ := setAll_true hk (hnodup.sublist (hsubl.map _)) fun p hp => hlt84 p (hsubl.subset hp)
    have hout : ∀ j, j ∉ (prs L.pre L.post σ1).map (·.1) → h'.get j = h.get j := fun j hj => hout0 j fun hm => hj ((hsubl.map _).subset hm)
    have hin : ∀ (i j : Nat) (q : LB), σ1[i]? = some j → L.post[i]? = some q → lv L.pre i = true → (L.kp[i]? = some true ∧ h'.get j = h.get j) ∨ h'.get j = outB h j σ1 q := fun i j q hi hq hl => by
      by_cases hk : L.kp[i]? = some true
      · refine .inl ⟨hk, hout0 j fun hm => ?_⟩
        obtain ⟨⟨j', q'⟩, hmq, hjj⟩ := List.mem_map.1 hm
        have hjj : j' = j := hjj
        subst hjj
        obtain ⟨i', g1, g2, g3, g4⟩ := mem_sets hmq
        have h1 := (List.getElem?_eq_some_iff.1 hi).1
        have h2 := (List.getElem?_eq_some_iff.1 g1).1
        have hii : i = i' := hidx i i' hl g3 h1 h2 (by
          rw [hσ1get i h1] at hi; rw [hσ1get i' h2] at g1
          exact (Option.some.inj hi).trans (Option.some.inj g1).symm)
        subst hii
        obtain ⟨l, hpl, _⟩ := hkget i hk
        have := g4 (by rw [hpl]; rfl)
        rw [hk] at this; cases this
      · refine .inr (hin0 (j, q) (sets_mem hi hq hl (fun p hp => ?_) hkl))
        have hilt : i < L.kp.length := by rw [hkl]; exact (List.getElem?_eq_some_iff.1 hp).1
        rw [List.getElem?_eq_getElem hilt] at hk ⊢
        cases hb : L.kp[i] with
        | true => rw [hb] at hk; exact absurd rfl hk
        | false => rfl
    rw [forceN_eq, hc] at hk
    have houtnx : ∀ j K, ρ' j = some K → j ∉ (prs L.pre L.post σ1).map (·.1) → j < nx ∧ ρ j = some K := fun j K hj hn => by
      by_cases hlt : j < nx
      · exact ⟨hlt, by rw [hρ'lt j hlt] at hj; exact hj⟩
      · exfalso
        have hj : (if j < nx then ρ j else if j < nx + c then ρ1 (L.pre.length + (j - nx)) else none) = some K := hj
        rw [if_neg hlt] at hj
        split at hj
        · rename_i hlt2
          have hi : L.pre.length + (j - nx) < L.post.length := by omega
          have hjj : σ1[L.pre.length + (j - nx)]? = some j := by
            rw [hσ1get _ (by omega), hσ1, if_neg (by omega), if_pos (by omega)]
            congr 1; omega
          exact hn (List.mem_map.2 ⟨_, prs_mem hjj (List.getElem?_eq_getElem hi) (by unfold lv; rw [List.getElem?_eq_none (by omega)]), rfl⟩)
        · cases hj
    have hapart : ∀ j K, ρ j = some K → h.get j ≠ .dead → j ∉ (prs L.pre L.post σ1).map (·.1) → w1.heap[K.blk]? = w.heap[K.blk]? ∧ ∃ o, EL K.blk = some o := fun j K hj hl hn => by
      have he := (hEL K.blk).1 (.inr ⟨j, K, hj, hl, rfl, hn⟩)
      obtain ⟨_, hsz⟩ := hs.live j K hj hl
      obtain ⟨o, ho⟩ : ∃ o, w.heap[K.blk]? = some o := ⟨_, Array.getElem?_eq_getElem hsz⟩
      have he2 : EL K.blk = some o := he.trans ho
      exact ⟨by rw [(hs1.ext _ o he2).1, ho], o, he2⟩
    have hqlive : ∀ (j : Nat) (q : LB), (j, q) ∈ prs L.pre L.post σ1 → h'.get j ≠ .dead → q.live = true := fun j q hm hl => by
      obtain ⟨i, g1, g2, g3⟩ := mem_prs hm
      rcases hin i j q g1 g2 g3 with ⟨hk, _⟩ | he
      · obtain ⟨l, _, hq, _⟩ := hkget i hk
        rw [g2] at hq; cases hq; rfl
      · rw [he] at hl
        cases q <;> first | rfl | exact absurd rfl hl
    have hs' : HS ρ' h' (nx + c) w1.heap E := by
      refine ⟨fun j K hj => ?_, by omega, fun g K hg hj => ?_, by have := hs.nx_ge; omega, fun j K hj hl => ?_, fun i j Ki Kj hi hj hne hKi hKj => ?_, fun b o hb => ?_, fun g hg hl => ?_⟩
      · by_cases hlt : j < nx
        · omega
        · have hj : (if j < nx then ρ j else if j < nx + c then ρ1 (L.pre.length + (j - nx)) else none) = some K := hj
          rw [if_neg hlt] at hj
          split at hj
          · assumption
          · cases hj
      · rw [hρ'lt g (by have := hs.nx_ge; omega)] at hj
        exact hs.glob g K hg hj
      · by_cases hm : j ∈ (prs L.pre L.post σ1).map (·.1)
        · obtain ⟨⟨j', q⟩, hmq, rfl⟩ := List.mem_map.1 hm
          clear hm
          have hm := hmq
          have hql := hqlive j' q hm hl
          obtain ⟨i, g1, g2, g3, g4⟩ := hback j' q K hm hj
          have hsm := hp1 i q g2
          have hilt := (List.getElem?_eq_some_iff.1 g2).1
          obtain ⟨hB, hsz⟩ := hs1.live i K g4 (hsm.alive hql)
          have hbq := List.all_eq_true.1 hbpost q (List.mem_of_getElem? g2)
          refine ⟨?_, hsz⟩
          show BR ρ' h' (h'.get j') K w1.heap
          rcases hin i j' q g1 g2 g3 with ⟨hk, he⟩ | he
          · obtain ⟨l, hpl, hq, hbl⟩ := hkget i hk
            rw [g2] at hq
            have hq := Option.some.inj hq
            subst hq
            have hi0 := (List.getElem?_eq_some_iff.1 hpl).1
            obtain ⟨_, hsmc⟩ := preOk_get hpre i (.cells l) _ hpl (hσget i (by omega)) rfl
            have hsg : sg σ i = j' := by
              have h1 := hσ1get i (by omega)
              rw [g1] at h1
              rw [Option.some.inj h1, hσ1, if_pos (by omega)]
            rw [hsg] at hsmc
            rw [he]
            refine BR_keep (N := L.pre.length) (fun a K ha h => ?_) hsmc hsm hbl hB
            have := hF a K (by omega) h
            rw [hσ1, if_pos (by omega)] at this
            exact this
          · rw [he]
            exact BR_ren (fun i K hi h => hF i K hi h) hsm hql hbq hB _
        · obtain ⟨hlt, hρj⟩ := houtnx j K hj hm
          rw [hout j hm] at hl ⊢
          obtain ⟨hB, hsz⟩ := hs.live j K hρj hl
          obtain ⟨heq, o, ho⟩ := hapart j K hρj hl hm
          refine ⟨?_, (Array.getElem?_eq_some_iff.1 (hs1.ext _ o ho).1).1⟩
          cases hb : h.get j with
          | iter m ver left cur =>
            rw [hb] at hB
            obtain ⟨Lm, since, seen, stepped, q0, q1, q2, q3⟩ := hB
            refine ⟨Lm, since, seen, stepped, q0, hle.1 _ _ q1, by rw [heq]; exact q2, fun l v hgm => ?_⟩
            by_cases hmm : m ∈ (prs L.pre L.post σ1).map (·.1)
            · obtain ⟨⟨m', q⟩, hm2, rfl⟩ := List.mem_map.1 hmm
              obtain ⟨i, g1, g2, g3, g4⟩ := hback m' q Lm hm2 (hle.1 _ _ q1)
              have hgm : h'.get m' = .map l v := hgm
              rcases hin i m' q g1 g2 g3 with ⟨hk, he⟩ | he
              · exfalso
                obtain ⟨l', hpl, hq, hbl⟩ := hkget i hk
                have hi0 := (List.getElem?_eq_some_iff.1 hpl).1
                obtain ⟨_, hsmc⟩ := preOk_get hpre i (.cells l') _ hpl (hσget i (by omega)) rfl
                have hsg : sg σ i = m' := by
                  have h1 := hσ1get i (by omega)
                  rw [g1] at h1
                  rw [Option.some.inj h1, hσ1, if_pos (by omega)]
                rw [hsg] at hsmc
                obtain ⟨t, z, hbb, _⟩ := sameB_cells hsmc
                rw [he, hbb] at hgm
                cases hgm
              rw [he] at hgm
              have hqm : q.isMap = true := by
                cases q with
                | map l => rfl
                | cells l => cases hgm
                | dead => cases hgm
              have hilt := (List.getElem?_eq_some_iff.1 g1).1
              have hsg : sg σ1 i = m' := by rw [hσ1get i hilt] at g1; exact Option.some.inj g1
              have hm'nx := hs.dom m' Lm q1
              have hisz : i < σ.length := by
                by_cases hlt2 : i < σ.length
                · exact hlt2
                · rw [hσ1, if_neg hlt2, if_pos (by omega)] at hsg; omega
              rw [hσ1, if_pos hisz] at hsg
              cases hp : L.pre[i]? with
              | none => have := List.getElem?_eq_none_iff.1 hp; omega
              | some p =>
                have hlp : p.live = true := by unfold lv at g3; rw [hp] at g3; exact g3
                have hpm := kindOk_get hkind i p q hp g2 hlp hqm
                obtain ⟨_, hsm⟩ := preOk_get hpre i p _ hp (hσget i hisz) hlp
                cases p with
                | dead => cases hlp
                | cells l => cases hpm
                | map l0 =>
                  obtain ⟨v0, hv0⟩ := sameB_map hsm
                  rw [hsg] at hv0
                  obtain ⟨z1, _⟩ := q3 _ v0 hv0
                  cases q with
                  | dead => cases hqm
                  | cells l => cases hqm
                  | map lq =>
                    have hgm : Blk.map (renKV σ1 lq) (verOf (h.get m') + 1) = .map l v := hgm
                    rw [hv0] at hgm
                    cases hgm
                    show ver ≤ v0 + 1 ∧ _
                    exact ⟨by omega, fun e => by simp only [verOf] at e; omega⟩
            · rw [hout m hmm] at hgm
              obtain ⟨z1, z2⟩ := q3 l v hgm
              refine ⟨z1, fun e es clock hes => z2 e es clock ?_⟩
              rw [← (hapart m Lm q1 (by rw [hgm]; simp) hmm).1]; exact hes
          | _ =>
            rw [hb] at hB
            exact (BR.mono hle.1 hB).other heq fun m ver left cur Lm l v hbe _ _ => by cases hbe
      · -- two names, two blocks
        have cls : ∀ (j : Nat) (K : Loc), h'.get j ≠ .dead → ρ' j = some K → (∃ a, h1.get a ≠ .dead ∧ ρ1 a = some K ∧ σ1[a]? = some j ∧ lv L.pre a = true) ∨ (j ∉ (prs L.pre L.post σ1).map (·.1) ∧ h.get j ≠ .dead ∧ ρ j = some K ∧ ∃ o, EL K.blk = some o) := by
          intro j K hl hK
          by_cases hm : j ∈ (prs L.pre L.post σ1).map (·.1)
          · obtain ⟨⟨j', q⟩, hmq, rfl⟩ := List.mem_map.1 hm
            clear hm
            have hm := hmq
            obtain ⟨i, g1, g2, g3, g4⟩ := hback j' q K hm hK
            exact .inl ⟨i, SameP.alive (hp1 i q g2) (hqlive j' q hm hl), g4, g1, g3⟩
          · obtain ⟨_, hρj⟩ := houtnx j K hK hm
            rw [hout j hm] at hl
            exact .inr ⟨hm, hl, hρj, (hapart j K hρj hl hm).2⟩
        rcases cls i Ki hi hKi with ⟨a, a1, a2, a3, a4⟩ | ⟨a1, a2, a3, o, a4⟩ <;> rcases cls j Kj hj hKj with ⟨b, b1, b2, b3, b4⟩ | ⟨b1, b2, b3, o', b4⟩
        · refine hs1.inj a b Ki Kj a1 b1 (fun e => hne ?_) a2 b2
          subst e; rw [a3] at b3; exact Option.some.inj b3
        · exact (hs1.ext _ _ b4).2 a Ki a1 a2
        · exact Ne.symm ((hs1.ext _ _ a4).2 b Kj b1 b2)
        · exact hs.inj i j Ki Kj a2 b2 hne a3 b3
      · obtain ⟨e1, e2⟩ := hs.ext b o hb
        have hEb : EL b = some o := ((hEL b).1 (.inl (by rw [hb]; rfl))).trans e1
        obtain ⟨f1, f2⟩ := hs1.ext b o hEb
        refine ⟨f1, fun j K hl hj => ?_⟩
        by_cases hm : j ∈ (prs L.pre L.post σ1).map (·.1)
        · obtain ⟨⟨j', q⟩, hmq, rfl⟩ := List.mem_map.1 hm
          clear hm
          have hm := hmq
          obtain ⟨i, g1, g2, g3, g4⟩ := hback j' q K hm hj
          exact f2 i K (SameP.alive (hp1 i q g2) (hqlive j' q hm hl)) g4
        · obtain ⟨_, hρj⟩ := houtnx j K hj hm
          rw [hout j hm] at hl
          exact e2 j K hl hρj
      · have hg' : h.get g ≠ .dead := by
          by_cases hm : g ∈ (prs L.pre L.post σ1).map (·.1)
          · obtain ⟨⟨j', q⟩, hmq, rfl⟩ := List.mem_map.1 hm
            clear hm
            have hm := hmq
            obtain ⟨i, g1, g2, g3⟩ := mem_prs hm
            have hilt := (List.getElem?_eq_some_iff.1 g1).1
            have hsg : sg σ1 i = j' := by rw [hσ1get i hilt] at g1; exact Option.some.inj g1
            have hg : j' < 8 := hg
            have := hs.nx_ge
            have hisz : i < σ.length := by
              by_cases hlt2 : i < σ.length
              · exact hlt2
              · rw [hσ1, if_neg hlt2, if_pos (by omega)] at hsg; omega
            rw [hσ1, if_pos hisz] at hsg
            cases hp : L.pre[i]? with
            | none => have := List.getElem?_eq_none_iff.1 hp; omega
            | some p =>
              have hlp : p.live = true := by unfold lv at g3; rw [hp] at g3; exact g3
              obtain ⟨_, hsm⟩ := preOk_get hpre i p _ hp (hσget i hisz) hlp
              rw [hsg] at hsm
              exact sameB_live hsm (hren_live p σ hlp)
          · rw [hout g hm] at hl; exact hl
        obtain ⟨K, hK⟩ := hs.glive g hg hg'
        exact ⟨K, by rw [hρ'lt g (by have := hs.nx_ge; omega)]; exact hK⟩
    exact ⟨_, cv, h', nx + c, ρ', w1, fr, hk, hsteps, hfn, hleave, VR_ren (fun i K hi h => hF i K hi h) _ hbres hvr, hs', hle, by omega, hso⟩
  · exact .inl hk

end

theorem useLs_ok {f : FuncId} {ls : List Lem} (hL : ∀ L ∈ ls, LemOK P L ∧ lemOk L = true ∧ L.fn = f) {args : List AV} {h : H} {nx : Nat} {k : AV → H → Nat → Bool} {fb : Unit → Bool} (hk : useLs ls args h nx k fb = true) : fb () = true ∨
    ∀ {ρ : Ren} {cargs : Array Value} {w : World} {E : Nat → Option Obj}, VRs ρ args cargs.toList → HS ρ h nx w.heap E →
      (∃ fn body, P.funcs[f]? = some fn ∧ fn.body = some body) ∧ ∀ base : List Frame, ∃ v cv h' nx' ρ' w' fr, k v h' nx' = true ∧ Steps P (lone (Frame.enter P f cargs .normal) base w) (lone fr base w') ∧ fr.fn = f ∧
        fr.leaving P w' (.returned cv) ∧ VR ρ' v cv ∧ HS ρ' h' nx' w'.heap E ∧ ρ.ext nx ρ' ∧ nx ≤ nx' ∧ SO w w' := by
  induction ls generalizing fb with
  | nil => exact .inl hk
  | cons L l ih =>
    obtain ⟨h1, h2, rfl⟩ := hL L (by simp)
    have hk : (if likeAs L.args args then useWith L args h nx k (fun _ => useLs l args h nx k fb) (findS L args h) else useLs l args h nx k fb) = true := hk
    rcases ite_true' hk with ⟨_, hk⟩ | ⟨_, hk⟩
    · rcases useWith_ok h1 h2 hk with hk | hr
      · exact ih (fun M hM => hL M (by simp [hM])) hk
      · exact .inr hr
    · exact ih (fun M hM => hL M (by simp [hM])) hk

theorem tabOf_get : ∀ {ls : List Lem} {f : Nat} {l : List Lem}, (tabOf ls).get f = some l → ∀ L ∈ l, L ∈ ls ∧ L.fn = f
  | [], f, l, h => by cases h
  | M :: ls, f, l, h => by
    have h2 : ((tabOf ls).set (match (tabOf ls).get M.fn with | some q => M :: q | none => [M]) M.fn).get f = some l := h
    rw [T.get_set] at h2
    split at h2
    · rename_i e
      have h3 := Option.some.inj h2
      subst h3 e
      intro L hL
      split at hL
      · rename_i q hq
        rcases List.mem_cons.1 hL with rfl | hL
        · exact ⟨by simp, rfl⟩
        · obtain ⟨h1, h2⟩ := tabOf_get hq L hL
          exact ⟨by simp [h1], h2⟩
      · simp only [List.mem_singleton] at hL
        subst hL
        exact ⟨by simp, rfl⟩
    · intro L hL
      obtain ⟨h1, h2⟩ := tabOf_get h2 L hL
      exact ⟨by simp [h1], h2⟩

theorem extL_ok {ls : List Lem} (hL : ∀ L ∈ ls, LemOK P L ∧ lemOk L = true) : ExtOK P (extL ls) := by
  intro f e he args h nx k fb hk
  unfold extL at he
  split at he
  · rename_i l hl
    simp only [Option.some.injEq] at he
    subst he
    exact useLs_ok (fun L hm => by
      obtain ⟨h1, h2⟩ := tabOf_get hl L hm
      exact ⟨(hL L h1).1, (hL L h1).2, h2⟩) hk
  · cases he

theorem lems_nil : ∀ L ∈ ([] : List Lem), LemOK P L ∧ lemOk L = true := fun _ h => by cases h
theorem lems_cons {L : Lem} {ls : List Lem} (h1 : LemOK P L) (h2 : lemOk L = true) (h3 : ∀ L ∈ ls, LemOK P L ∧ lemOk L = true) : ∀ M ∈ L :: ls, LemOK P M ∧ lemOk M = true := fun M hM => by
  rcases List.mem_cons.1 hM with rfl | hM
  · exact ⟨h1, h2⟩
  · exact h3 M hM

end Go.Proofs.YtfcoffpmcmhieaaGreatDoor.AI
namespace Go.Proofs.YtfcoffpmcmhieaaGreatDoor.AI
variable {P : Program}
noncomputable section

/-- A run of so many steps, then whatever. -/
def runTo (P : Program) (X : Ext) (post : AV → H → Bool) (go : Go) (n : Nat) : Go :=
  @Nat.rec (fun _ => Go) go (fun _ ih todo r x cs h nx => stepA P X post todo r x cs h nx ih) n

/-- The code of a function, and what lies in it. -/
def bodyAt (P : Program) (f : FuncId) : Code := match P.funcs[f]? with | some fn => (match fn.body with | some c => c | none => .skip) | none => .skip
def sub1 (c : Code) (i : Nat) : Code :=
  match c with
  | .seq a b => (match i with | 0 => a | _ => b)
  | .cond _ a b => (match i with | 0 => a | _ => b)
  | .block _ a => a
  | .loop a => a
  | .scope a => a
  | .rangeFunc _ _ a b => (match i with | 0 => a | _ => b)
  | c => c
def codeAt (P : Program) (f : FuncId) (l : List Nat) : Code := l.foldl sub1 (bodyAt P f)

def r0 : N8 AV := N8.all .top
def r1 : N8 (N8 AV) := N8.all r0

/-- Where a run is: what is left to do, the registers, the blocks; the names that these had. -/
structure At where
  todo : List AItem
  r : R
  x : FX
  hl : List LB
  τ : List Nat

def plainI (i : AItem) : Bool := match i with | .code _ | .inBlock _ | .inLoop _ | .inScope _ => true | _ => false
def sameR (τ : List Nat) (s r : R) : Bool := (List.range 512).all fun i => match s.get i with | .top => true | a => avEq (renA τ a) (r.get i)
def cutOk (m : Nat) (S : At) (todo : List AItem) (r : R) (x : FX) (cs : List AF) (h : H) : Bool :=
  cs.isEmpty && x.defs.isEmpty && x.rnd.isNone && !todo.isEmpty && todo.all plainI && Nat.ble 8 m && Nat.ble m S.hl.length && Nat.ble S.hl.length 3583 && Nat.beq S.τ.length S.hl.length &&
    ((List.range m).all fun g => Nat.beq (sg S.τ g) g) && sameR S.τ S.r r && sameAll h S.τ S.hl S.τ && distinctM (liveNames S.hl S.τ) 0
/-- The run is at a state: it goes on from there. -/
def cutGo (m : Nat) (S : At) (F : At → Bool) : Go := fun todo r x cs h _ => onTrue (cutOk m S todo r x cs h) (F { S with todo := todo, x := x })
def startF (go : Go) (S : At) : Bool := layH S.hl 0 H.empty fun h => go S.todo S.r S.x [] h S.hl.length

theorem AG_runTo (hn : NoCount P) (hmix : P.follows .mixedOrders = true) {X : Ext} (hX : ExtOK P X) {m0 : Nat} {post : AV → H → Bool} {go : Go} (hg : AG P m0 post go) : ∀ n, AG P m0 post (runTo P X post go n)
  | 0 => hg
  | n + 1 => fun E wz ρ0 f0 base hd => by
    have ih := AG_runTo hn hmix hX hg n E wz ρ0 f0 base hd
    refine ⟨fun {todo r x cs h nx} hk {ρ m b a its callers w} bs hh => ?_, fun {r x cs h nx} hk {ρ m fr callers w} bs hm hrnd hr => ?_⟩
    · exact stepA_ok ih hn hmix hX (show stepA P X post todo r x cs h nx (runTo P X post go n) = true from hk) bs hh
    · exact stepA_ret ih hn (X := X) (show stepA P X post [] r x cs h nx (runTo P X post go n) = true from hk) bs hm hrnd hr

theorem KR_plain {ρ ρ' : Ren} : ∀ {k : List AItem} {l : List Item}, k.all plainI = true → KR ρ k l → KR ρ' k l
  | [], _, _, h => h
  | a :: k, _, hp, ⟨x, l', h1, h2, h3⟩ => by
    simp only [List.all_cons, Bool.and_eq_true] at hp
    refine ⟨x, l', h1, ?_, KR_plain hp.2 h3⟩
    cases a <;> first | exact h2 | cases hp.1

theorem HeadR_plain {ρ : Ren} {m nx n : Nat} {r : R} {tmps : Array Value} {todo : List AItem} {its : List Item} (hp : todo.all plainI = true) (h : HeadR P ρ m nx n r tmps todo its) : RR ρ n r tmps ∧ KR ρ todo its := by
  unfold HeadR at h
  split at h
  · simp [plainI] at hp
  · simp [plainI] at hp
  · exact h

theorem dig_far (n : Nat) : dig (n + 7) = .d7 := rfl
theorem R.get_far (r : R) {t : Nat} (ht : 512 ≤ t) : r.get (448 + t % 64) = r.get t := by
  have h0 : dig0 (448 + t % 64) = dig0 t := by unfold dig0; rw [show (448 + t % 64) % 8 = t % 8 by omega]
  have h1 : dig1 (448 + t % 64) = dig1 t := by unfold dig1; rw [show (448 + t % 64) / 8 % 8 = t / 8 % 8 by omega]
  have h2 : top2 (448 + t % 64) = top2 t := by
    unfold top2
    rw [show (448 + t % 64) / 64 = 0 + 7 by omega, show t / 64 = (t / 64 - 7) + 7 by omega, dig_far, dig_far]
  unfold R.get
  rw [h0, h1, h2]

theorem AG_cut {m0 : Nat} {post : AV → H → Bool} {go : Go} (hg : AG P m0 post go) (S : At) : AG P m0 post (cutGo m0 S (startF go)) := fun E wz ρ0 f0 base hd => by
  refine ⟨fun {todo r x cs h nx} hk {ρ m b a its callers w} bs hh => ?_, fun {r x cs h nx} hk {ρ m fr callers w} bs hm hrnd hr => ?_⟩
  · obtain ⟨hc, hk2⟩ := onTrue_true (show onTrue (cutOk m0 S todo r x cs h) (startF go { S with todo := todo, x := x }) = true from hk)
    unfold cutOk at hc
    simp only [Bool.and_eq_true, Nat.ble_eq, Nat.beq_eq] at hc
    obtain ⟨⟨⟨⟨⟨⟨⟨⟨⟨⟨⟨⟨c1, c2⟩, c3⟩, c4⟩, c5⟩, c6⟩, c7⟩, c8⟩, c9⟩, c10⟩, c11⟩, c12⟩, c13⟩ := hc
    have hcs : cs = [] := by simpa using c1
    have hdf : x.defs = [] := by simpa using c2
    have hrn : x.rnd = none := by simpa using c3
    subst hcs
    have hτ : ∀ g, g < m0 → sg S.τ g = g := fun g hgl => by
      have := List.all_eq_true.1 c10 g (List.mem_range.2 hgl)
      simpa using this
    obtain ⟨h', hk', hget⟩ := layH_pre (k := fun h => go todo S.r x [] h S.hl.length) (l := S.hl) hk2 (by omega)
    have hsub := bs.hs.sub (τ := S.τ) (post := S.hl) c9 (by omega) c8 (fun g hg8 => hτ g (by omega)) (fun i j q hq hj hl => sameAll_get c12 i j q hq hj hl) (distinctM_ok c13).1 hget
    have h3583 : ρ 3583 = none := by
      cases e : ρ 3583 with
      | none => rfl
      | some K => have := bs.hs.dom _ K e; have := bs.hs.nx_le; omega
    have hun : ∀ i K, ρ (sg S.τ i) = some K → (fun i => if i < S.hl.length then ρ (sg S.τ i) else none : Ren) i = some K := fun i K hi => by
      show (if i < S.hl.length then ρ (sg S.τ i) else none) = some K
      by_cases hlt : i < S.hl.length
      · rw [if_pos hlt]; exact hi
      · have : sg S.τ i = 3583 := by unfold sg; rw [List.getElem?_eq_none (by omega)]; rfl
        rw [this, h3583] at hi; cases hi
    obtain ⟨hr, hkr⟩ := HeadR_plain c5 hh
    have hcr : callers = [] ∧ m0 ≤ m := bs.crs
    refine (hg E wz ρ0 f0 base hd).run hk' (ρ := fun i => if i < S.hl.length then ρ (sg S.τ i) else none) (m := m0) ⟨bs.fn, bs.kind, ?_, ?_, ⟨hcr.1, Nat.le_refl _⟩, hsub, c6, c7, bs.bot, ⟨fun i K hi => ?_, fun i hi => ?_⟩, bs.so⟩ (HeadR.plain ⟨hr.size, hr.le, fun t => ?_⟩ (KR_plain c5 hkr))
    · have := bs.rnd
      rw [hrn] at this ⊢
      exact this
    · have := bs.defs
      rw [hdf] at this ⊢
      exact this
    · have hlt := hd i K hi
      refine hun i K ?_
      rw [hτ i hlt]
      exact bs.r0.1 i K hi
    · show (if i < S.hl.length then ρ (sg S.τ i) else none) = ρ0 i
      rw [if_pos (by omega), hτ i hi]
      exact bs.r0.2 i hi
    · have key : ∀ i, i < 512 → VR (fun i => if i < S.hl.length then ρ (sg S.τ i) else none) (S.r.get i) (a.tmps.getD t undef) ∨ ∃ b, r.get i = renA S.τ b ∧ S.r.get i = b := fun i hi => by
        have := List.all_eq_true.1 c11 i (List.mem_range.2 hi)
        revert this
        cases e : S.r.get i <;> intro this <;> first
          | (left; simp only [VR]; done)
          | exact .inr ⟨_, (avEq_eq _ _ this).symm, rfl⟩
      obtain ⟨i, hi, e1, e2⟩ : ∃ i, i < 512 ∧ S.r.get i = S.r.get t ∧ r.get i = r.get t := by
        by_cases ht : t < 512
        · exact ⟨t, ht, rfl, rfl⟩
        · exact ⟨448 + t % 64, by omega, R.get_far S.r (by omega), R.get_far r (by omega)⟩
      rw [← e1]
      rcases key i hi with h1 | ⟨b, h1, h2⟩
      · exact h1
      · have := hr.val t
        rw [← e2, h1] at this
        rw [h2]
        exact VR_unren hun b this
  · have hc := (onTrue_true (show onTrue (cutOk m0 S [] r x cs h) (startF go { S with todo := [], x := x }) = true from hk)).1
    simp [cutOk] at hc

theorem cut_last (hn : NoCount P) (hmix : P.follows .mixedOrders = true) {X : Ext} (hX : ExtOK P X) {m0 : Nat} {post : AV → H → Bool} {n : Nat} {S : At} (h : startF (run P X post n) S = true) :
    ∃ go, AG P m0 post go ∧ startF go S = true := ⟨_, AG_run hn hmix hX n, h⟩

theorem cut_first (hn : NoCount P) (hmix : P.follows .mixedOrders = true) {X : Ext} (hX : ExtOK P X) {L : Lem} {news : List Nat} {n : Nat} {S : At} (hl : lemOk L = true)
    (hc : (fun F => layH L.pre 0 H.empty fun h => enterA P L.fn L.args .normal [] h L.pre.length (runTo P X (postOf L news) (cutGo L.pre.length S F) n)) = fun F => F S)
    (h : ∃ go, AG P L.pre.length (postOf L news) go ∧ startF go S = true) : LemOK P L := by
  obtain ⟨go, h1, h2⟩ := h
  exact lem_of_AG (AG_runTo hn hmix hX (AG_cut h1 S) n) hl ((congrFun hc (startF go)).trans h2)

theorem cut_mid (hn : NoCount P) (hmix : P.follows .mixedOrders = true) {X : Ext} (hX : ExtOK P X) {m0 : Nat} {post : AV → H → Bool} {n : Nat} {S S' : At}
    (hc : (fun F => startF (runTo P X post (cutGo m0 S' F) n) S) = fun F => F S') (h : ∃ go, AG P m0 post go ∧ startF go S' = true) : ∃ go, AG P m0 post go ∧ startF go S = true := by
  obtain ⟨go, h1, h2⟩ := h
  exact ⟨_, AG_runTo hn hmix hX (AG_cut h1 S') n, (congrFun hc (startF go)).trans h2⟩

end
end Go.Proofs.YtfcoffpmcmhieaaGreatDoor.AI
