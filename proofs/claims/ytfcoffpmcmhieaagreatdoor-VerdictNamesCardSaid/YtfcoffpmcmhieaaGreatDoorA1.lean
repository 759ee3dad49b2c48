/- The abstract interpreter: its definitions, the relation to the model. -/
import Derived.AtR
import Derived.Orders
import Derived.KernelRfl
set_option linter.unusedVariables false
set_option linter.unusedSimpArgs false
namespace Go.Proofs.YtfcoffpmcmhieaaGreatDoor.AI
noncomputable section

/-! ### Registers: three digits of eight -/
inductive D | d0 | d1 | d2 | d3 | d4 | d5 | d6 | d7

def D.sel {α : Type} (i : D) : α → α → α → α → α → α → α → α → α :=
  @D.rec (fun _ => α → α → α → α → α → α → α → α → α)
    (fun a _ _ _ _ _ _ _ => a) (fun _ a _ _ _ _ _ _ => a) (fun _ _ a _ _ _ _ _ => a) (fun _ _ _ a _ _ _ _ => a)
    (fun _ _ _ _ a _ _ _ => a) (fun _ _ _ _ _ a _ _ => a) (fun _ _ _ _ _ _ a _ => a) (fun _ _ _ _ _ _ _ a => a) i

inductive N8 (α : Type) | mk (a b c d e f g h : α)

def D.upd {α : Type} (i : D) : α → α → α → α → α → α → α → α → α → N8 α :=
  @D.rec (fun _ => α → α → α → α → α → α → α → α → α → N8 α)
    (fun x _ b c d e f g h => .mk x b c d e f g h) (fun x a _ c d e f g h => .mk a x c d e f g h)
    (fun x a b _ d e f g h => .mk a b x d e f g h) (fun x a b c _ e f g h => .mk a b c x e f g h)
    (fun x a b c d _ f g h => .mk a b c d x f g h) (fun x a b c d e _ g h => .mk a b c d e x g h)
    (fun x a b c d e f _ h => .mk a b c d e f x h) (fun x a b c d e f g _ => .mk a b c d e f g x) i

def N8.get {α : Type} (i : D) (x : N8 α) : α := @N8.rec α (fun _ => α) (D.sel i) x
def N8.all {α : Type} (a : α) : N8 α := .mk a a a a a a a a

/-- What is put back where a digit's part was taken. -/
def putUp {α : Type} (i : D) (k : N8 α → Bool) (a b c d e f g h v : α) : Bool := k (i.upd v a b c d e f g h)
def atArm {α : Type} (a b c d e f g h : α) (i : D) (f' : (α → Bool) → α → Bool) (k : N8 α → Bool) : Bool := f' (putUp i k a b c d e f g h) (i.sel a b c d e f g h)
/-- A part is turned by `f`. -/
def N8.atK {α : Type} (i : D) (f : (α → Bool) → α → Bool) (k : N8 α → Bool) (x : N8 α) : Bool :=
  @N8.rec α (fun _ => D → ((α → Bool) → α → Bool) → (N8 α → Bool) → Bool) atArm x i f k
def putK {α : Type} (v : α) (k : α → Bool) (_ : α) : Bool := k v

/-- The digit of a number below 8. -/
def dig (n : Nat) : D :=
  @Nat.rec (fun _ => D) .d0 (fun n _ => @Nat.rec (fun _ => D) .d1 (fun n _ => @Nat.rec (fun _ => D) .d2 (fun n _ => @Nat.rec (fun _ => D) .d3
    (fun n _ => @Nat.rec (fun _ => D) .d4 (fun n _ => @Nat.rec (fun _ => D) .d5 (fun n _ => @Nat.rec (fun _ => D) .d6 (fun _ _ => .d7) n) n) n) n) n) n) n
def dig0 (n : Nat) : D := dig (n % 8)
def dig1 (n : Nat) : D := dig (n / 8 % 8)
def dig2 (n : Nat) : D := dig (n / 64 % 8)
/-- The last digits: 7 for all that is too great. -/
def top2 (n : Nat) : D := dig (n / 64)
def top3 (n : Nat) : D := dig (n / 512)

/-! ### Tries: the index 0 at the root -/
inductive T (α : Type) | leaf | node (l : T α) (v : Option α) (r : T α)

def T.get {α : Type} (t : T α) : Nat → Option α :=
  @T.rec α (fun _ => Nat → Option α) (fun _ => none)
    (fun _ v _ gl gr n => @Nat.rec (fun _ => Option α) v (fun m _ => @Nat.rec (fun _ => Option α) (gl (m / 2)) (fun _ _ => gr (m / 2)) (m % 2)) n) t

/-- A path of the digits of n (below 2^fuel), laid down where there was nothing. -/
def T.one {α : Type} (fuel : Nat) (a : α) : Nat → T α :=
  @Nat.rec (fun _ => Nat → T α) (fun _ => .node .leaf (some a) .leaf)
    (fun _ ih n => @Nat.rec (fun _ => T α) (.node .leaf (some a) .leaf)
      (fun m _ => @Nat.rec (fun _ => T α) (.node (ih (m / 2)) none .leaf) (fun _ _ => .node .leaf none (ih (m / 2))) (m % 2)) n) fuel

def T.set {α : Type} (t : T α) (a : α) : Nat → T α :=
  @T.rec α (fun _ => Nat → T α) (fun n => T.one n.log2.succ a n)
    (fun l v r sl sr n => @Nat.rec (fun _ => T α) (.node l (some a) r)
      (fun m _ => @Nat.rec (fun _ => T α) (.node (sl (m / 2)) v r) (fun _ _ => .node l v (sr (m / 2))) (m % 2)) n) t

def T.ofListFrom {α : Type} : List α → Nat → T α → T α
  | [], _, t => t
  | a :: l, i, t => T.ofListFrom l (i + 1) (t.set a i)
def T.ofList {α : Type} (l : List α) : T α := T.ofListFrom l 0 .leaf

/-! ### Abstract values -/
inductive AV where
  /-- nothing is known -/
  | top
  | bool (b : Bool)
  | int (k : IntKind) (n : Int)
  | str (s : List UInt8)
  | nilptr
  | ptr (b off : Nat)
  | nilslice
  /-- `cap`: the capacity (`exact`), or a lower bound; `sz`: the cells of an element -/
  | slice (b off len cap : Nat) (exact : Bool) (sz : Nat)
  | nilmap
  | map (b : Nat)
  | nilfunc
  | func (f : FuncId) (captured : List AV)
  /-- a function of a method, with its receiver -/
  | meth (f : FuncId) (recv : AV)
  | yield (l : Nat)
  | nilif
  | iface (t : TypeId) (v : AV)
  | agg (l : List AV)
  | tup (l : List AV)
  deriving Inhabited

abbrev R := N8 (N8 (N8 AV))
def R.get (r : R) (n : Nat) : AV := N8.get (dig0 n) (N8.get (dig1 n) (N8.get (top2 n) r))
def R.empty : R := N8.all (N8.all (N8.all .top))
def R.setK (r : R) (n : Nat) (v : AV) (k : R → Bool) : Bool := N8.atK (top2 n) (N8.atK (dig1 n) (N8.atK (dig0 n) (putK v))) k r

/-! ### Eliminators with closed arms -/
def AV.onInt (a : AV) (k : IntKind → Int → Bool) : Bool :=
  @AV.rec (fun _ => (IntKind → Int → Bool) → Bool) (fun _ => Unit)
    (fun _ => false) (fun _ _ => false) (fun kd n k => k kd n) (fun _ _ => false) (fun _ => false) (fun _ _ _ => false) (fun _ => false) (fun _ _ _ _ _ _ _ => false)
    (fun _ => false) (fun _ _ => false) (fun _ => false) (fun _ _ _ _ => false) (fun _ _ _ _ => false) (fun _ _ => false) (fun _ => false) (fun _ _ _ _ => false) (fun _ _ _ => false) (fun _ _ _ => false)
    () (fun _ _ _ _ => ()) a k
def AV.onBool (a : AV) (k : Bool → Bool) : Bool :=
  @AV.rec (fun _ => (Bool → Bool) → Bool) (fun _ => Unit)
    (fun _ => false) (fun b k => k b) (fun _ _ _ => false) (fun _ _ => false) (fun _ => false) (fun _ _ _ => false) (fun _ => false) (fun _ _ _ _ _ _ _ => false)
    (fun _ => false) (fun _ _ => false) (fun _ => false) (fun _ _ _ _ => false) (fun _ _ _ _ => false) (fun _ _ => false) (fun _ => false) (fun _ _ _ _ => false) (fun _ _ _ => false) (fun _ _ _ => false)
    () (fun _ _ _ _ => ()) a k
def AV.onPtr (a : AV) (k : Nat → Nat → Bool) : Bool :=
  @AV.rec (fun _ => (Nat → Nat → Bool) → Bool) (fun _ => Unit)
    (fun _ => false) (fun _ _ => false) (fun _ _ _ => false) (fun _ _ => false) (fun _ => false) (fun b o k => k b o) (fun _ => false) (fun _ _ _ _ _ _ _ => false)
    (fun _ => false) (fun _ _ => false) (fun _ => false) (fun _ _ _ _ => false) (fun _ _ _ _ => false) (fun _ _ => false) (fun _ => false) (fun _ _ _ _ => false) (fun _ _ _ => false) (fun _ _ _ => false)
    () (fun _ _ _ _ => ()) a k
def AV.onSlice (a : AV) (k : Nat → Nat → Nat → Nat → Bool → Nat → Bool) : Bool :=
  @AV.rec (fun _ => (Nat → Nat → Nat → Nat → Bool → Nat → Bool) → Bool) (fun _ => Unit)
    (fun _ => false) (fun _ _ => false) (fun _ _ _ => false) (fun _ _ => false) (fun _ => false) (fun _ _ _ => false) (fun _ => false) (fun b o l c e s k => k b o l c e s)
    (fun _ => false) (fun _ _ => false) (fun _ => false) (fun _ _ _ _ => false) (fun _ _ _ _ => false) (fun _ _ => false) (fun _ => false) (fun _ _ _ _ => false) (fun _ _ _ => false) (fun _ _ _ => false)
    () (fun _ _ _ _ => ()) a k

def AV.onIntOr (a : AV) (k : IntKind → Int → Bool) (e : Bool) : Bool :=
  @AV.rec (fun _ => (IntKind → Int → Bool) → Bool → Bool) (fun _ => Unit)
    (fun _ e => e) (fun _ _ e => e) (fun kd n k _ => k kd n) (fun _ _ e => e) (fun _ e => e) (fun _ _ _ e => e) (fun _ e => e) (fun _ _ _ _ _ _ _ e => e)
    (fun _ e => e) (fun _ _ e => e) (fun _ e => e) (fun _ _ _ _ e => e) (fun _ _ _ _ e => e) (fun _ _ e => e) (fun _ e => e) (fun _ _ _ _ e => e) (fun _ _ _ e => e) (fun _ _ _ e => e)
    () (fun _ _ _ _ => ()) a k e

def kEq (a b : IntKind) : Bool :=
  @IntKind.rec (fun _ => IntKind → Bool)
    (@IntKind.rec (fun _ => Bool) true false false false false false false false) (@IntKind.rec (fun _ => Bool) false true false false false false false false)
    (@IntKind.rec (fun _ => Bool) false false true false false false false false) (@IntKind.rec (fun _ => Bool) false false false true false false false false)
    (@IntKind.rec (fun _ => Bool) false false false false true false false false) (@IntKind.rec (fun _ => Bool) false false false false false true false false)
    (@IntKind.rec (fun _ => Bool) false false false false false false true false) (@IntKind.rec (fun _ => Bool) false false false false false false false true) a b

def onSome {α : Type} (o : Option α) (k : α → Bool) : Bool := @Option.rec α (fun _ => (α → Bool) → Bool) (fun _ => false) (fun a k => k a) o k
def onTrue (b : Bool) (k : Bool) : Bool := @Bool.rec (fun _ => Bool → Bool) (fun _ => false) (fun k => k) b k
/-- A number, reckoned out. -/
def forceN (n : Nat) (k : Nat → Bool) : Bool := @Nat.rec (fun _ => (Nat → Bool) → Bool) (fun k => k 0) (fun m _ k => k (Nat.succ m)) n k
def onNat (n : Int) (k : Nat → Bool) : Bool := @Int.rec (fun _ => (Nat → Bool) → Bool) (fun m k => k m) (fun _ _ => false) n k

/-! ### The heap -/
inductive Blk where
  /-- the first `n` cells are known: what the trie holds, else the pattern `z` -/
  | cells (n : Nat) (t : T AV) (z : List AV)
  | map (l : List (AV × AV)) (ver : Nat)
  /-- a walk over a map: which entries are left, and the one that was met last -/
  | iter (m ver : Nat) (left : List Nat) (cur : Option Nat)
  | loop (st : LoopState) (pending : Option Code) (fn : FuncId) (n : Nat) (r : R) (params : Array Tmp) (assign body : Code) (defers : Nat)
  /-- the deferred calls of the rounds of a range over a function: none; taken? -/
  | defd (taken : Bool)
  | dead

abbrev H := N8 (N8 (N8 (N8 Blk)))
def H.empty : H := N8.all (N8.all (N8.all (N8.all .dead)))
def H.get (h : H) (n : Nat) : Blk := N8.get (dig0 n) (N8.get (dig1 n) (N8.get (dig2 n) (N8.get (top3 n) h)))
def H.setK (h : H) (n : Nat) (b : Blk) (k : H → Bool) : Bool := N8.atK (top3 n) (N8.atK (dig2 n) (N8.atK (dig1 n) (N8.atK (dig0 n) (putK b)))) k h

def Blk.onCells (b : Blk) (k : Nat → T AV → List AV → Bool) : Bool :=
  @Blk.rec (fun _ => (Nat → T AV → List AV → Bool) → Bool) (fun n t z k => k n t z) (fun _ _ _ => false) (fun _ _ _ _ _ => false) (fun _ _ _ _ _ _ _ _ _ _ => false) (fun _ _ => false) (fun _ => false) b k

def H.onCells (h : H) (b : Nat) (k : Nat → T AV → List AV → Bool) : Bool := (h.get b).onCells k

/-- The cell at an offset. -/
def cellAt (n : Nat) (t : T AV) (z : List AV) (o : Nat) (k : AV → Bool) : Bool :=
  @Bool.rec (fun _ => Bool) false (@Option.rec AV (fun _ => (AV → Bool) → Bool) (fun k => onSome z[o % z.length]? k) (fun a k => k a) (t.get o) k) (Nat.blt o n)

def cellAt1 (o : Nat) (k : AV → Bool) (n : Nat) (t : T AV) (z : List AV) : Bool := cellAt n t z o k

def cellsAt (n : Nat) (t : T AV) (z : List AV) : Nat → Nat → (List AV → Bool) → Bool
  | _, 0, k => k []
  | o, m + 1, k => cellAt n t z o fun v => cellsAt n t z (o + 1) m fun l => k (v :: l)

def setCells (t : T AV) : List AV → Nat → T AV
  | [], _ => t
  | v :: l, o => setCells (t.set v o) l (o + 1)

/-! ### Types, by what a program's table says -/
inductive TK | scalar | agg (n : Nat) | no
def tyk (P : Program) (t : TypeId) : TK :=
  match P.underlying t with
  | some (.struct _) | some (.array _ _) => match P.info? t with | some i => .agg i.size | none => .no
  | some _ => match P.info? t with | some i => if i.size = 1 then .scalar else .no | none => .no
  | none => .no
def fld (P : Program) (s : TypeId) (f : Nat) : Option (Nat × Nat) :=
  match P.underlying s with
  | some (.struct fields) => (fields[f]?).bind fun x => (P.info? x.type).map fun i => (x.offset, i.size)
  | _ => none
def sliceElem (P : Program) (t : TypeId) : Option (TypeId × Nat × Nat) :=
  match P.underlying t with
  | some (.slice e) => (P.info? e).map fun i => (e, i.size, i.bytes)
  | _ => none
def arrayElem (P : Program) (t : TypeId) : Option (Nat × TypeId × Nat) :=
  match P.underlying t with
  | some (.array n e) => (P.info? e).map fun i => (n, e, i.size)
  | _ => none
def mapKind (P : Program) (t : TypeId) : Option (TypeId × TypeId) :=
  match P.underlying t with
  | some (.map k e) => some (k, e)
  | _ => none

/-! ### Values in and out -/
def ofS : Value → AV
  | .bool b => .bool b
  | .int k n => .int k n
  | .string s => .str s.data.toList
  | .pointer none => .nilptr
  | .slice none 0 0 => .nilslice
  | .map none => .nilmap
  | .func (.func f) first captured => if first.isEmpty && captured.isEmpty then .func f [] else .top
  | .nilFunc => .nilfunc
  | .nilIface => .nilif
  | _ => .top
def ofV : Value → AV
  | .agg cs => .agg (cs.toList.map ofS)
  | .tuple cs => .tup (cs.toList.map ofS)
  | v => ofS v

def toS : AV → Option Value
  | .bool b => some (.bool b)
  | .int k n => some (.int k n)
  | .str s => some (.string ⟨⟨s⟩⟩)
  | .nilptr => some (.pointer none)
  | .nilslice => some (.slice none 0 0)
  | .nilmap => some (.map none)
  | .nilfunc => some .nilFunc
  | .nilif => some .nilIface
  | _ => none
def toV : AV → Option Value
  | .agg l => (l.mapM toS).map fun vs => .agg ⟨vs⟩
  | v => toS v

def AV.cells : AV → List AV
  | .agg l => l
  | v => [v]
/-- Is the value one of known shape, for one cell? -/
def AV.oneCell : AV → Bool
  | .top | .agg _ | .tup _ => false
  | _ => true

def AV.allOne (l : List AV) : Bool := l.all AV.oneCell

/-- A run that asks nothing of the world. -/
def pureRun {α : Type} (P : Program) : Sem α → Option α
  | .pure a => some a
  | .program k => pureRun P (k P)
  | .mark _ k => pureRun P k
  | _ => none

def evTmp (t : Tmp) (_ : H) (r : R) : AV := r.get t
def evConst (v : Value) (_ : H) (_ : R) : AV := ofV v
def evGlobal (g : Nat) (h : H) (_ : R) : AV := if g < 8 then (match h.get g with | .dead => .top | _ => .ptr g 0) else .top
def evFunc (f : FuncId) (_ : H) (_ : R) : AV := .func f []
def ev (h : H) (r : R) (o : Operand) : AV := @Operand.rec (fun _ => H → R → AV) evTmp evConst evGlobal evFunc o h r
def evsCons (o : Operand) (_ : List Operand) (ih : H → R → List AV) (h : H) (r : R) : List AV := ev h r o :: ih h r
def evs (h : H) (r : R) (l : List Operand) : List AV := @List.rec Operand (fun _ => H → R → List AV) (fun _ _ => []) evsCons l h r

/-! ### Comparing -/
mutual
def avEq : AV → AV → Bool
  | .bool a, .bool b => a == b
  | .int k a, .int j b => decide (k = j) && a == b
  | .str a, .str b => a == b
  | .nilptr, .nilptr | .nilslice, .nilslice | .nilmap, .nilmap | .nilfunc, .nilfunc | .nilif, .nilif => true
  | .ptr a o, .ptr b p => a == b && o == p
  | .slice a o l c e s, .slice a' o' l' c' e' s' => a == a' && o == o' && l == l' && c == c' && e == e' && s == s'
  | .map a, .map b => a == b
  | .func f l, .func g m => f == g && avsEq l m
  | .meth f a, .meth g b => f == g && avEq a b
  | .yield l, .yield m => l == m
  | .iface t v, .iface u w => t == u && avEq v w
  | .agg l, .agg m => avsEq l m
  | .tup l, .tup m => avsEq l m
  | _, _ => false
def avsEq : List AV → List AV → Bool
  | [], [] => true
  | a :: l, b :: m => avEq a b && avsEq l m
  | _, _ => false
end

/-- Are two keys the same? `none`: that is not known. -/
def keyEq : AV → AV → Option Bool
  | .int k a, .int j b => if k = j then some (a == b) else none
  | .str a, .str b => some (a == b)
  | .bool a, .bool b => some (a == b)
  | _, _ => none

/-! ### What an operation does -/
inductive ADef where
  | collected (b : Nat)
  | call (f : FuncId) (args : List AV)

inductive Out where
  | val (v : AV) (h : H) (nx : Nat)
  | enter (f : FuncId) (args : List AV)
  | round (l : Nat) (args : List AV)
  | defer (d : ADef)
  | recover

abbrev K := Out → Bool
abbrev Run := Program → R → H → Nat → K → Bool

def fail0 : Run := fun _ _ _ _ _ => false

/-- An outcome that leaves the heap alone. -/
def retV (h : H) (nx : Nat) (k : K) (v : AV) : Bool := k (.val v h nx)
def retH (v : AV) (nx : Nat) (k : K) (h : H) : Bool := k (.val v h nx)
def newH (v : AV) (k : K) (h : H) (nx : Nat) : Bool := k (.val v h nx)
def newN (v : AV) (k : K) (nx : Nat) (h : H) : Bool := forceN (Nat.succ nx) (newH v k h)
/-- A block is laid down at the next id. -/
def newB (v : AV) (b : Blk) (h : H) (nx : Nat) (k : K) : Bool := onTrue (Nat.blt nx 3583) (h.setK nx b (newN v k nx))

def opMove (x : Operand) : Run := fun _ r h nx k => k (.val (ev h r x) h nx)

def pick2 (a b : Operand) (r : R) (h : H) (nx : Nat) (k : K) (t : Bool) : Bool := k (.val (ev h r (@Bool.rec (fun _ => Operand) b a t)) h nx)
def opPick (c a b : Operand) : Run := fun _ r h nx k => (ev h r c).onBool (pick2 a b r h nx k)

def zeroCellsOf (P : Program) (t : TypeId) : Option (List AV) := ((P.info? t).bind (·.zero)).map fun v => (ofV v).cells
def zeroOf (P : Program) (t : TypeId) : Option AV := ((P.info? t).bind (·.zero)).map ofV

def alloc2 (h : H) (nx : Nat) (k : K) (z : List AV) : Bool := onTrue (AV.allOne z) (newB (.ptr nx 0) (.cells z.length .leaf z) h nx k)
def opAlloc (t : TypeId) : Run := fun P _ h nx k => onSome (zeroCellsOf P t) (alloc2 h nx k)

def box2 (l : List AV) (h : H) (nx : Nat) (k : K) : Bool := onTrue (AV.allOne l) (newB (.ptr nx 0) (.cells l.length (T.ofList l) []) h nx k)
def opBox (_t : TypeId) (x : Operand) : Run := fun _ r h nx k => box2 (ev h r x).cells h nx k

/-- Parts laid over cells: `place` tells a part's offset and size. -/
def fillA (place : Nat → Option (Nat × Nat)) : List (Nat × AV) → List AV → Option (List AV)
  | [], cs => some cs
  | (i, v) :: rest, cs => match place i with
    | none => none
    | some (off, size) => if v.cells.length ≠ size || off + size > cs.length || !AV.allOne v.cells then none else fillA place rest (cs.take off ++ v.cells ++ cs.drop (off + size))

/-- Where the fields of a struct lie, all of them. -/
def structPlaces (P : Program) (t : TypeId) : Option (List (Nat × Nat)) :=
  match P.underlying t with
  | some (.struct fields) => fields.toList.mapM fun f => (P.info? f.type).map fun i => (f.offset, i.size)
  | _ => none
/-- The places of the parts of a struct, of an array. -/
def placesOf (P : Program) (t : TypeId) : Option (Nat → Option (Nat × Nat)) :=
  match P.underlying t with
  | some (.struct _) => (structPlaces P t).map fun l i => l[i]?
  | some (.array _ e) => (P.info? e).map fun x i => some (i * x.size, x.size)
  | _ => none

def evParts (h : H) (r : R) (parts : Array (Nat × Operand)) : List (Nat × AV) := parts.toList.map fun p => (p.1, ev h r p.2)

def opBuild (t : TypeId) (parts : Array (Nat × Operand)) : Run := fun P r h nx k =>
  onSome (zeroCellsOf P t) fun z => onSome (placesOf P t) fun place => onTrue (AV.allOne z) (onSome (fillA place (evParts h r parts) z) fun cs => k (.val (.agg cs) h nx))

def repeatL (z : List AV) : Nat → List AV
  | 0 => []
  | n + 1 => z ++ repeatL z n

def opBuildSlice (t : TypeId) (len : Nat) (parts : Array (Nat × Operand)) : Run := fun P r h nx k =>
  onSome (sliceElem P t) fun e => onSome (zeroCellsOf P e.1) fun z => onTrue (AV.allOne z && z.length == e.2.1 && decide (len * e.2.1 ≤ 2 ^ 24))
    (onSome (fillA (fun i => some (i * e.2.1, e.2.1)) (evParts h r parts) (repeatL z len)) fun cs =>
      newB (.slice nx 0 len len true e.2.1) (.cells (len * e.2.1) (T.ofList cs) []) h nx k)

def load1 (h : H) (b o : Nat) (k : AV → Bool) : Bool := (h.get b).onCells (cellAt1 o k)
def loadN (m : Nat) (h : H) (b o : Nat) (k : AV → Bool) : Bool := (h.get b).onCells fun n t z => cellsAt n t z o m fun l => k (.agg l)
def load0 (_ : H) (_ _ : Nat) (_ : AV → Bool) : Bool := false
def loadK (P : Program) (h : H) (t : TypeId) (b o : Nat) (k : AV → Bool) : Bool :=
  @TK.rec (fun _ => H → Nat → Nat → (AV → Bool) → Bool) load1 loadN load0 (tyk P t) h b o k

def load2 (P : Program) (h : H) (t : TypeId) (k : AV → Bool) (b o : Nat) : Bool := loadK P h t b o k
def opLoad (t : TypeId) (x : Operand) : Run := fun P r h nx k => (ev h r x).onPtr (load2 P h t (retV h nx k))

def store1a (h : H) (b o : Nat) (v : AV) (k : H → Bool) (n : Nat) (t : T AV) (z : List AV) : Bool := onTrue (Nat.blt o n) (onTrue v.oneCell (h.setK b (.cells n (t.set v o) z) k))
def store1 (h : H) (b o : Nat) (v : AV) (k : H → Bool) : Bool := (h.get b).onCells (store1a h b o v k)
def storeN (m : Nat) (h : H) (b o : Nat) (v : AV) (k : H → Bool) : Bool := (h.get b).onCells fun n t z => match v with
  | .agg l => onTrue (l.length == m && decide (o + m ≤ n) && AV.allOne l) (h.setK b (.cells n (setCells t l o) z) k)
  | _ => false
def store0 (_ : H) (_ _ : Nat) (_ : AV) (_ : H → Bool) : Bool := false
def storeK (P : Program) (h : H) (t : TypeId) (v : AV) (k : H → Bool) (b o : Nat) : Bool :=
  @TK.rec (fun _ => H → Nat → Nat → AV → (H → Bool) → Bool) store1 storeN store0 (tyk P t) h b o v k
def opStore (t : TypeId) (x v : Operand) : Run := fun P r h nx k => (ev h r x).onPtr (storeK P h t (ev h r v) (retH (.tup []) nx k))

def opNilCheck (x : Operand) : Run := fun _ r h nx k => match ev h r x with
  | .ptr b o => k (.val (.ptr b o) h nx)
  | .func f l => k (.val (.func f l) h nx)
  | .meth f a => k (.val (.meth f a) h nx)
  | .iface t v => k (.val (.iface t v) h nx)
  | _ => false

def isConst : Operand → Bool
  | .const _ => true
  | _ => false

/-- Comparing with nil, at a type of the right kind. -/
def nilEq (d : TypeDesc) (c : Bool) (a b : AV) : Option Bool :=
  match d, a, b with
  | .interface _, .nilif, .nilif => if c then some true else none
  | .interface _, .nilif, .iface .. | .interface _, .iface .., .nilif => some false
  | .pointer _, .nilptr, .nilptr => some true
  | .pointer _, .nilptr, .ptr .. | .pointer _, .ptr .., .nilptr => some false
  | .slice _, .nilslice, .nilslice => some true
  | .slice _, .nilslice, .slice .. | .slice _, .slice .., .nilslice => some false
  | .map _ _, .nilmap, .nilmap => some true
  | .map _ _, .nilmap, .map _ | .map _ _, .map _, .nilmap => some false
  | .func _ _ _, .nilfunc, .nilfunc => some true
  | .func _ _ _, .nilfunc, .func .. | .func _ _ _, .func .., .nilfunc => some false
  | .func _ _ _, .nilfunc, .meth .. | .func _ _ _, .meth .., .nilfunc => some false
  | _, _, _ => none

/-- An integer, wrapped and reckoned out. -/
def retPos (k : Int → Bool) (m : Nat) : Bool := k (.ofNat m)
def retNeg (k : Int → Bool) (m : Nat) : Bool := k (.negSucc m)
def wrap64a (m : Nat) (k : Int → Bool) : Bool := @Bool.rec (fun _ => Bool) (k (IntKind.wrap .i64 (.ofNat m))) (forceN m (retPos k)) (Nat.blt m 9223372036854775808)
def wrap64b (m : Nat) (k : Int → Bool) : Bool := @Bool.rec (fun _ => Bool) (k (IntKind.wrap .i64 (.negSucc m))) (forceN m (retNeg k)) (Nat.blt m 9223372036854775808)
def wrap64 (n : Int) (k : Int → Bool) : Bool := @Int.rec (fun _ => (Int → Bool) → Bool) wrap64a wrap64b n k
def wrapO (kd : IntKind) (n : Int) (k : Int → Bool) : Bool := k (IntKind.wrap kd n)
def wrapK (kd : IntKind) (n : Int) (k : Int → Bool) : Bool :=
  @IntKind.rec (fun _ => Int → (Int → Bool) → Bool) (wrapO .i8) (wrapO .i16) (wrapO .i32) wrap64 (wrapO .u8) (wrapO .u16) (wrapO .u32) (wrapO .u64) kd n k

def addA (y x : Nat) : Int := .ofNat (Nat.add x y)
def intAdd (a b : Int) : Int := @Int.rec (fun _ => Int → Int) (fun x b => @Int.rec (fun _ => Nat → Int) addA (fun y x => Int.ofNat x + Int.negSucc y) b x) (fun x b => Int.negSucc x + b) a b
def intSub (a b : Int) : Int := a - b
def intMul (a b : Int) : Int := a * b
def intLt (a b : Int) : Bool := @Int.rec (fun _ => Int → Bool) (fun x b => @Int.rec (fun _ => Nat → Bool) (fun y x => Nat.blt x y) (fun _ _ => false) b x) (fun x b => @Int.rec (fun _ => Nat → Bool) (fun _ _ => true) (fun y x => Nat.blt y x) b x) a b
def intEq (a b : Int) : Bool := @Int.rec (fun _ => Int → Bool) (fun x b => @Int.rec (fun _ => Nat → Bool) (fun y x => Nat.beq x y) (fun _ _ => false) b x) (fun x b => @Int.rec (fun _ => Nat → Bool) (fun _ _ => false) (fun y x => Nat.beq x y) b x) a b
def intGt (a b : Int) : Bool := intLt b a
def intLe (a b : Int) : Bool := !intLt b a
def intGe (a b : Int) : Bool := !intLt a b
def intNe (a b : Int) : Bool := !intEq a b

def binSlow (op : BinOp) (xT : TypeId) (x y : Operand) : Run := fun P r h nx k =>
  onSome (toV (ev h r x)) fun a => onSome (toV (ev h r y)) fun b =>
    onSome (pureRun P (do eqGuard op xT x y a b; Go.binOp op xT a b)) fun v => k (.val (ofV v) h nx)

/-- == and != : nil first. -/
def binEq (op : BinOp) (neg : Bool) (xT : TypeId) (x y : Operand) : Run := fun P r h nx k =>
  match (P.underlying xT).bind fun d => nilEq d (isConst x || isConst y) (ev h r x) (ev h r y) with
  | some b => k (.val (.bool (b != neg)) h nx)
  | none => binSlow op xT x y P r h nx k

def retI (ka : IntKind) (h : H) (nx : Nat) (k : K) (n : Int) : Bool := k (.val (.int ka n) h nx)
def arith2 (f : Int → Int → Int) (h : H) (nx : Nat) (k : K) (ka : IntKind) (a : Int) (kb : IntKind) (b : Int) : Bool := onTrue (kEq ka kb) (wrapK ka (f a b) (retI ka h nx k))
def arith1 (f : Int → Int → Int) (y : AV) (h : H) (nx : Nat) (k : K) (ka : IntKind) (a : Int) : Bool := y.onInt (arith2 f h nx k ka a)
def arith (f : Int → Int → Int) (op : BinOp) (xT : TypeId) (x y : Operand) : Run := fun P r h nx k => (ev h r x).onIntOr (arith1 f (ev h r y) h nx k) (binSlow op xT x y P r h nx k)
def comp2 (f : Int → Int → Bool) (h : H) (nx : Nat) (k : K) (ka : IntKind) (a : Int) (kb : IntKind) (b : Int) : Bool := onTrue (kEq ka kb) (k (.val (.bool (f a b)) h nx))
def comp1 (f : Int → Int → Bool) (y : AV) (h : H) (nx : Nat) (k : K) (ka : IntKind) (a : Int) : Bool := y.onInt (comp2 f h nx k ka a)
def comp (f : Int → Int → Bool) (op : BinOp) (xT : TypeId) (x y : Operand) : Run := fun P r h nx k => (ev h r x).onIntOr (comp1 f (ev h r y) h nx k) (binSlow op xT x y P r h nx k)
def compE (f : Int → Int → Bool) (op : BinOp) (neg : Bool) (xT : TypeId) (x y : Operand) : Run := fun P r h nx k => (ev h r x).onIntOr (comp1 f (ev h r y) h nx k) (binEq op neg xT x y P r h nx k)

def binOf (op : BinOp) : TypeId → Operand → Operand → Run :=
  @BinOp.rec (fun _ => TypeId → Operand → Operand → Run)
    (arith intAdd .add) (arith intSub .sub) (arith intMul .mul) (binSlow .quo) (binSlow .rem) (binSlow .and) (binSlow .or) (binSlow .xor) (binSlow .shl) (binSlow .shr) (binSlow .andNot)
    (compE intEq .eql false) (compE intNe .neq true) (comp intLt .lss) (comp intLe .leq) (comp intGt .gtr) (comp intGe .geq) op
def opBin (op : BinOp) (xT : TypeId) (x y : Operand) (_yT : TypeId) : Run := binOf op xT x y

def opUn (op : UnOp) (_t : TypeId) (x : Operand) : Run := fun P r h nx k =>
  onSome (toV (ev h r x)) fun a => onSome (pureRun P (Op.unary op a)) fun v => k (.val (ofV v) h nx)

/-- The bytes of cells. -/
def bytesOf : List AV → Option (List UInt8)
  | [] => some []
  | .int .u8 n :: l => (bytesOf l).map (UInt8.ofNat n.toNat :: ·)
  | _ => none

def isByteSlice (P : Program) (t : TypeId) : Bool :=
  match P.underlying t with
  | some (.slice e) => match P.underlying e with | some (.int .u8) => true | _ => false
  | _ => false
def isString (P : Program) (t : TypeId) : Bool := match P.underlying t with | some .string => true | _ => false

def byteCells (s : List UInt8) : List AV := s.map fun b => .int .u8 b.toNat

def opConvert (s d : TypeId) (x : Operand) : Run := fun P r h nx k =>
  match ev h r x with
  | .str l => @Bool.rec (fun _ => Bool)
      (onSome (pureRun P (convert s d (.string ⟨⟨l⟩⟩))) fun v => k (.val (ofV v) h nx))
      (onTrue (isString P s) (onSome (sliceElem P d) fun e => onTrue (e.2.1 == 1)
        (newB (.slice nx 0 l.length l.length false 1) (.cells l.length (T.ofList (byteCells l)) []) h nx k)))
      (isByteSlice P d)
  | .slice b o len _ _ sz => onTrue (isByteSlice P s && isString P d && sz == 1) ((h.get b).onCells fun n t z => cellsAt n t z o len fun l => onSome (bytesOf l) fun s => k (.val (.str s) h nx))
  | .nilslice => onTrue (isByteSlice P s && isString P d) (k (.val (.str []) h nx))
  | a => onSome (toV a) fun a => onSome (pureRun P (convert s d a)) fun v => k (.val (ofV v) h nx)

def opMakeInterface (t : TypeId) (x : Operand) : Run := fun P r h nx k =>
  match P.underlying t with
  | some (.interface _) | none => false
  | _ => k (.val (.iface t (ev h r x)) h nx)

def opMakeFunc (fn : Fn) (first captured : Array Operand) : Run := fun _ r h nx k =>
  match fn with
  | .func f => (match first.toList with
    | [] => k (.val (.func f (evs h r captured.toList)) h nx)
    | [x] => onTrue captured.isEmpty (k (.val (.meth f (ev h r x)) h nx))
    | _ => false)
  | _ => false

def opMakeMap (t : TypeId) (res : Option Operand) : Run := fun P r h nx k =>
  match res with
  | none => newB (.map nx) (.map [] 0) h nx k
  | some x => (ev h r x).onInt fun _ _ => onSome (mapKind P t) fun _ => newB (.map nx) (.map [] 0) h nx k

def opMakeSlice (t : TypeId) (len cap : Operand) : Run := fun P r h nx k =>
  (ev h r len).onInt fun _ l => (ev h r cap).onInt fun _ c => onNat l fun l => onNat c fun c =>
    onSome (sliceElem P t) fun e => onSome (zeroCellsOf P e.1) fun z =>
      onTrue (decide (l ≤ c) && decide (c < 2 ^ 24) && decide (e.2.2 < 2 ^ 20) && AV.allOne z && z.length == e.2.1)
        (forceN l fun l => forceN c fun c => forceN (c * e.2.1) fun n => newB (.slice nx 0 l c true e.2.1) (.cells n .leaf z) h nx k)

/-- A bound that may be left out. -/
def boundK (h : H) (r : R) (x : Option Operand) (dflt : Nat) (k : Nat → Bool) : Bool :=
  match x with
  | none => k dflt
  | some x => (ev h r x).onInt fun _ n => onNat n fun n => forceN n k

def opSlice (t : TypeId) (x : Operand) (lo' hi' mx : Option Operand) : Run := fun P r h nx k =>
  match ev h r x with
  | .str s => onTrue (isString P t && mx.isNone) (boundK h r hi' s.length fun hi => boundK h r lo' 0 fun lo => onTrue (decide (lo ≤ hi) && decide (hi ≤ s.length)) (k (.val (.str ((s.take hi).drop lo)) h nx)))
  | .slice b o len cap ex sz => onSome (sliceElem P t) fun e => onTrue (e.2.1 == sz)
      (boundK h r hi' len fun hi => boundK h r lo' 0 fun lo => match mx with
        | none => onTrue (decide (lo ≤ hi) && decide (hi ≤ cap)) (forceN (hi - lo) fun len => forceN (cap - lo) fun cap => forceN (o + lo * sz) fun o => k (.val (.slice b o len cap ex sz) h nx))
        | some m => (ev h r m).onInt fun _ m => onNat m fun m => onTrue (hi'.isSome && decide (lo ≤ hi) && decide (hi ≤ m) && decide (m ≤ cap))
            (forceN (hi - lo) fun len => forceN (m - lo) fun cap => forceN (o + lo * sz) fun o => k (.val (.slice b o len cap true sz) h nx)))
  | .nilslice => onSome (sliceElem P t) fun _ => boundK h r hi' 0 fun hi => boundK h r lo' 0 fun lo => onTrue (decide (lo ≤ hi) && decide (hi ≤ 0) && mx.isNone) (k (.val .nilslice h nx))
  | .ptr b o => onSome (arrayElem P t) fun e => boundK h r hi' e.1 fun hi => boundK h r lo' 0 fun lo =>
      (h.get b).onCells fun n _ _ => onTrue (decide (lo ≤ hi) && decide (hi ≤ e.1) && mx.isNone && decide (o + e.1 * e.2.2 ≤ n)) (k (.val (.slice b (o + lo * e.2.2) (hi - lo) (e.1 - lo) true e.2.2) h nx))
  | _ => false

def retP (b : Nat) (h : H) (nx : Nat) (k : K) (o : Nat) : Bool := k (.val (.ptr b o) h nx)
def fieldAddr2 (p : Nat) (h : H) (nx : Nat) (k : K) (b o : Nat) : Bool := forceN (Nat.add o p) (retP b h nx k)
def fieldAddr1 (a : AV) (h : H) (nx : Nat) (k : K) (p : Nat × Nat) : Bool := onTrue (Nat.blt 0 p.2) (a.onPtr (fieldAddr2 p.1 h nx k))
def opFieldAddr (s : TypeId) (x : Operand) (f : Nat) : Run := fun P r h nx k => onSome (fld P s f) (fieldAddr1 (ev h r x) h nx k)

def nthK (l : List AV) (i : Nat) (k : AV → Bool) : Bool := onSome l[i]? k

/-- A part of cells, as a value of a type. -/
def partK (P : Program) (t : TypeId) (l : List AV) (off : Nat) (k : AV → Bool) : Bool :=
  match tyk P t with
  | .scalar => nthK l off k
  | .agg m => onTrue (decide (off + m ≤ l.length)) (k (.agg ((l.drop off).take m)))
  | .no => false

def fieldTy (P : Program) (s : TypeId) (f : Nat) : Option (TypeId × Nat) :=
  match P.underlying s with
  | some (.struct fields) => (fields[f]?).map fun x => (x.type, x.offset)
  | _ => none

def opField (s : TypeId) (x : Operand) (f : Nat) : Run := fun P r h nx k =>
  match ev h r x with
  | .agg l => onSome (fieldTy P s f) fun p => partK P p.1 l p.2 fun v => k (.val v h nx)
  | _ => false

def indexArr (P : Program) (t : TypeId) (a : AV) (h : H) (nx : Nat) (k : K) (i : Nat) : Bool :=
  onSome (arrayElem P t) fun e => a.onPtr fun b o => onTrue (Nat.blt i e.1) (forceN (o + i * e.2.2) (retP b h nx k))
def indexSl2 (esz : Nat) (h : H) (nx : Nat) (k : K) (i : Nat) (b o len _cap : Nat) (_ex : Bool) (sz : Nat) : Bool :=
  onTrue (Nat.blt i len) (onTrue (Nat.beq esz sz) (forceN (Nat.add o (Nat.mul i sz)) (retP b h nx k)))
def indexSl (a : AV) (h : H) (nx : Nat) (k : K) (i : Nat) (e : TypeId × Nat × Nat) : Bool := a.onSlice (indexSl2 e.2.1 h nx k i)
def index1 (P : Program) (t : TypeId) (a : AV) (h : H) (nx : Nat) (k : K) (i : Nat) : Bool :=
  @Option.rec (TypeId × Nat × Nat) (fun _ => Bool) (indexArr P t a h nx k i) (indexSl a h nx k i) (sliceElem P t)
def index0 (P : Program) (t : TypeId) (a : AV) (h : H) (nx : Nat) (k : K) (_ : IntKind) (i : Int) : Bool := onNat i (index1 P t a h nx k)
def opIndexAddr (t : TypeId) (x i : Operand) : Run := fun P r h nx k => (ev h r i).onInt (index0 P t (ev h r x) h nx k)

def opIndex (t : TypeId) (x i : Operand) : Run := fun P r h nx k =>
  (ev h r i).onInt fun _ i => onNat i fun i => match ev h r x with
    | .str s => onTrue (isString P t) (onSome s[i]? fun b => k (.val (.int .u8 b.toNat) h nx))
    | .agg l => onSome (arrayElem P t) fun e => onTrue (Nat.blt i e.1) (partK P e.2.1 l (i * e.2.2) fun v => k (.val v h nx))
    | _ => false

/-- Where is a key among entries? `some none`: nowhere. -/
def findA (key : AV) : List (AV × AV) → Nat → Option (Option Nat)
  | [], _ => some none
  | e :: l, i => match keyEq key e.1 with
    | some true => some (some i)
    | some false => findA key l (i + 1)
    | none => none

def onMap (h : H) (b : Nat) (k : List (AV × AV) → Nat → Bool) : Bool := match h.get b with | .map l ver => k l ver | _ => false

/-- A key of a kind that is looked for by its value. -/
def plainKey (P : Program) (t : TypeId) (key : AV) : Bool :=
  match P.underlying t, key with
  | some (.int k), .int k' _ => decide (k = k')
  | some .string, .str _ => true
  | some .bool, .bool _ => true
  | _, _ => false

/-- The same for any key whose parts name no memory, by the model's own search. -/
def findSlow (P : Program) (chk : Bool) (kt : TypeId) (key : AV) (l : List (AV × AV)) : Option (Option Nat) :=
  (toV key).bind fun kv => (l.mapM fun e => toV e.1).bind fun ks =>
    pureRun P (do
      Instr.checkKey chk 10000 kt kv
      let r ← Instr.findKey kt kv (ks.map fun v => { key := v, val := .bool false, born := 0 })
      pure (r.map (·.1)))

/-- Would the key that stays be the new one, wherever it is found? -/
def staysA (key : AV) (l : List (AV × AV)) (i : Nat) : Bool :=
  match toV key, (l[i]?).bind fun e => toV e.1 with
  | some a, some b => Instr.sameBits 10000 b a
  | _, _ => false

def keyIx (P : Program) (chk : Bool) (kt : TypeId) (key : AV) (l : List (AV × AV)) : Option (Option Nat) :=
  if plainKey P kt key then findA key l 0 else findSlow P chk kt key l

def lookOut (ok : Bool) (h : H) (nx : Nat) (k : K) (v : AV) (b : Bool) : Bool := k (.val (if ok then .tup [v, .bool b] else v) h nx)

def opLookup (t : TypeId) (x i : Operand) (ok : Bool) : Run := fun P r h nx k =>
  onSome (mapKind P t) fun ke => onSome (zeroOf P ke.2) fun z => match ev h r x with
    | .nilmap => onSome (keyIx P true ke.1 (ev h r i) []) fun _ => lookOut ok h nx k z false
    | .map b => onMap h b fun l _ => onSome (keyIx P l.isEmpty ke.1 (ev h r i) l) fun f => (match f with
      | some j => onSome l[j]? fun e => lookOut ok h nx k e.2 true
      | none => lookOut ok h nx k z false)
    | _ => false

def opMapUpdate (t : TypeId) (m key v : Operand) : Run := fun P r h nx k =>
  onSome (mapKind P t) fun ke => match ev h r m with
    | .map b => onMap h b fun l ver => onSome (keyIx P false ke.1 (ev h r key) l) fun f => (match f with
      | some i => onTrue (staysA (ev h r key) l i) (h.setK b (.map (l.set i (ev h r key, ev h r v)) ver) (retH (.tup []) nx k))
      | none => h.setK b (.map (l ++ [(ev h r key, ev h r v)]) (ver + 1)) (retH (.tup []) nx k))
    | _ => false

def opRange (t : TypeId) (x : Operand) : Run := fun P r h nx k =>
  onSome (mapKind P t) fun _ => match ev h r x with
    | .map b => onMap h b fun l ver => newB (.ptr nx 0) (.iter b ver (List.range l.length) none) h nx k
    | _ => false

def opNext (it : Operand) (isString : Bool) : Run := fun _ r h nx k => onTrue (!isString) ((ev h r it).onPtr fun b o => onTrue (o == 0) (match h.get b with
  | .iter m ver left _ => onMap h m fun l ver' => onTrue (ver == ver') (match left with
    | [] => k (.val (.tup [.bool false]) h nx)
    | left => left.all fun i => onSome l[i]? fun e => h.setK b (.iter m ver (left.erase i) (some i)) (retH (.tup [.bool true, e.1, e.2]) nx k))
  | _ => false))

def opEntry (it : Operand) : Run := fun _ r h nx k => (ev h r it).onPtr fun b o => onTrue (o == 0) (match h.get b with
  | .iter m ver _ (some i) => onMap h m fun l ver' => onTrue (ver == ver') (onSome l[i]? fun e => k (.val (.tup [e.1, e.2]) h nx))
  | _ => false)

def opExtract (x : Operand) (i : Nat) : Run := fun _ r h nx k => match ev h r x with
  | .tup l => onSome l[i]? fun v => k (.val v h nx)
  | _ => false

/-! ### Builtins -/
def typeAt (ts : Array TypeId) (i : Nat) : Option TypeId := ts[i]?

def isIntA (a : AV) : Bool := match a with | .int .. => true | _ => false

/-- What an append takes up: so many elements, these cells. `zeros`: a number of zeros. -/
def srcK (h : H) (sz : Nat) (zeros : Bool) (x : AV) (z : List AV) (k : Nat → List AV → Bool) : Bool :=
  match x with
  | .int _ n => onTrue zeros (onNat n fun n => onTrue (decide (n < 2 ^ 20)) (k n (repeatL z n)))
  | .nilslice => onTrue (!zeros) (k 0 [])
  | .slice b o len _ _ s => onTrue (!zeros && s == sz) ((h.get b).onCells fun n t z => cellsAt n t z o (len * sz) fun l => k len l)
  | .str s => onTrue (!zeros && sz == 1) (k s.length (byteCells s))
  | _ => false

/-- Is the last argument of an append a number of zeros? -/
def zerosArg (P : Program) (xT : Option TypeId) : Option Bool :=
  match xT with
  | some t => (P.underlying t).bind fun d => match d with | .int _ => some true | .slice _ => some false | .string => some false | _ => none
  | none => some false

/-- An append to a slice: in place, or in new memory, or perhaps in either. -/
def appendTo (b o len cap : Nat) (ex : Bool) (sz m : Nat) (new : List AV) (h : H) (nx : Nat) (k : K) : Bool :=
  forceN (len + m) fun need => (h.get b).onCells fun n t z =>
    @Bool.rec (fun _ => Bool)
      (onTrue (decide (need < 2 ^ 20) && decide (o + len * sz ≤ n))
        (@Bool.rec (fun _ => Bool)
          (@Bool.rec (fun _ => Bool)
            (cellsAt n t z o (len * sz) fun old => h.setK b .dead fun h => newB (.slice nx 0 need need false sz) (.cells (need * sz) (T.ofList (old ++ new)) []) h nx k)
            (forceN (need * sz) fun n' => h.setK b .dead fun h => newB (.slice nx 0 need need false sz) (.cells n' (setCells t new (len * sz)) z) h nx k)
            (Nat.beq o 0))
          (cellsAt n t z o (len * sz) fun old => newB (.slice nx 0 need need false sz) (.cells (need * sz) (T.ofList (old ++ new)) []) h nx k)
          ex))
      (onTrue (decide (o + need * sz ≤ n)) (h.setK b (.cells n (setCells t new (o + len * sz)) z) (retH (.slice b o need cap ex sz) nx k)))
      (Nat.ble need cap)

def appendA (P : Program) (ts : Array TypeId) (s x : AV) (h : H) (nx : Nat) (k : K) : Bool :=
  onSome (typeAt ts 0) fun sT => onSome (typeAt ts 1) fun xT => onSome (sliceElem P sT) fun e => onSome (zeroCellsOf P e.1) fun z =>
    onTrue (AV.allOne z && z.length == e.2.1 && Nat.blt 0 e.2.2 && decide (e.2.2 < 2 ^ 20))
      (onSome (zerosArg P (some xT)) fun zeros => srcK h e.2.1 zeros x z fun m new => match s with
        | .nilslice => (match m with
          | 0 => k (.val .nilslice h nx)
          | m => onTrue (decide (m < 2 ^ 20)) (newB (.slice nx 0 m m false e.2.1) (.cells (m * e.2.1) (T.ofList new) []) h nx k))
        | .slice b o len cap ex sz => onTrue (sz == e.2.1 && AV.allOne new) (appendTo b o len cap ex sz m new h nx k)
        | _ => false)

def lenA (P : Program) (ts : Array TypeId) (x : AV) (h : H) (k : Int → Bool) : Bool :=
  onSome (typeAt ts 0) fun t => match P.underlying t with
    | some .string => (match x with | .str s => k (.ofNat s.length) | _ => false)
    | some (.array n _) => k (.ofNat n)
    | some (.pointer a) => onSome (arrayElem P a) fun e => k (.ofNat e.1)
    | some (.slice _) => (match x with | .nilslice => k (.ofNat 0) | .slice _ _ len _ _ _ => k (.ofNat len) | _ => false)
    | some (.map _ _) => (match x with | .nilmap => k (.ofNat 0) | .map b => onMap h b fun l _ => k (.ofNat l.length) | _ => false)
    | _ => false

def capA (P : Program) (ts : Array TypeId) (x : AV) (k : Int → Bool) : Bool :=
  onSome (typeAt ts 0) fun t => onSome (sliceElem P t) fun _ => match x with
    | .nilslice => k (.ofNat 0)
    | .slice _ _ _ cap true _ => k (.ofNat cap)
    | _ => false

def copyA (P : Program) (ts : Array TypeId) (d s : AV) (h : H) (nx : Nat) (k : K) : Bool :=
  onSome (typeAt ts 0) fun t => onSome (sliceElem P t) fun e => match d with
    | .nilslice => (match s with | .nilslice | .slice .. | .str _ => k (.val (.int .i64 (.ofNat 0)) h nx) | _ => false)
    | .slice b o len _ _ sz => onTrue (sz == e.2.1) (match s with
      | .nilslice => k (.val (.int .i64 (.ofNat 0)) h nx)
      | .slice b' o' len' _ _ sz' => onTrue (sz' == sz) (forceN (Nat.min len' len) fun m => (h.get b').onCells fun n' t' z' => cellsAt n' t' z' o' (m * sz) fun l =>
          (h.get b).onCells fun n t z => onTrue (decide (o + m * sz ≤ n)) (h.setK b (.cells n (setCells t l o) z) (retH (.int .i64 (.ofNat m)) nx k)))
      | _ => false)
    | _ => false

def clearA (P : Program) (ts : Array TypeId) (x : AV) (h : H) (nx : Nat) (k : K) : Bool :=
  onSome (typeAt ts 0) fun t => onSome (sliceElem P t) fun e => onSome (zeroCellsOf P e.1) fun z => match x with
    | .nilslice => k (.val (.tup []) h nx)
    | .slice b o len _ _ sz => onTrue (sz == e.2.1 && AV.allOne z && z.length == e.2.1) ((h.get b).onCells fun n t z' => onTrue (decide (o + len * sz ≤ n)) (h.setK b (.cells n (setCells t (repeatL z len) o) z') (retH (.tup []) nx k)))
    | _ => false

def deleteA (P : Program) (ts : Array TypeId) (m key : AV) (h : H) (nx : Nat) (k : K) : Bool :=
  onSome (typeAt ts 0) fun t => onSome (mapKind P t) fun ke => match m with
    | .nilmap => onSome (keyIx P true ke.1 key []) fun _ => k (.val (.tup []) h nx)
    | .map b => onMap h b fun l ver => onSome (keyIx P l.isEmpty ke.1 key l) fun f => (match f with
      | some i => h.setK b (.map (l.eraseIdx i) (ver + 1)) (retH (.tup []) nx k)
      | none => k (.val (.tup []) h nx))
    | _ => false

def toVs (l : List AV) : Option (List Value) := l.mapM toV

def builtinK (b : Builtin) (ts : Array TypeId) (args : List AV) (P : Program) (h : H) (nx : Nat) (k : K) : Bool :=
  match b, args with
  | .len, [x] => lenA P ts x h (retI .i64 h nx k)
  | .append, [s, x] => appendA P ts s x h nx k
  | .cap, [x] => capA P ts x (retI .i64 h nx k)
  | .copy, [d, s] => copyA P ts d s h nx k
  | .max, l => onSome (toVs l) fun vs => onSome (pureRun P (Builtin.max_ #[] 0 ⟨vs⟩)) fun v => k (.val (ofV v) h nx)
  | .min, l => onSome (toVs l) fun vs => onSome (pureRun P (Builtin.min_ #[] 0 ⟨vs⟩)) fun v => k (.val (ofV v) h nx)
  | .clear, [x] => clearA P ts x h nx k
  | .delete, [m, key] => deleteA P ts m key h nx k
  | .recover, [] => k .recover
  | _, _ => false

/-! ### Calls -/
/-- The function behind a method's name at a type: a value receiver, or a pointer's own. -/
def methA (P : Program) (t : TypeId) (name : String) : Option FuncId :=
  (P.info? t).bind fun i => (i.methods.find? (·.name == name)).bind fun m =>
    if m.path.isEmpty then match m.func, P.underlying t with
      | some (f, true), some (.pointer _) => some f
      | some (_, false), some (.pointer _) => none
      | some (f, false), some _ => some f
      | _, _ => none
    else none

def callVal (f : AV) (args : List AV) (k : K) : Bool :=
  match f with
  | .func f caps => k (.enter f (args ++ caps))
  | .meth f a => k (.enter f (a :: args))
  | .yield l => k (.round l args)
  | _ => false

def calleeValue (f : Operand) (_ : Array TypeId) (args : List AV) : Run := fun _ r h _ k => callVal (ev h r f) args k
def calleeInvoke (recv : Operand) (name : String) (_ : Array TypeId) (args : List AV) : Run := fun P r h _ k => match ev h r recv with
  | .iface t v => onSome (methA P t name) fun f => k (.enter f (v :: args))
  | _ => false
def calleeBuiltin (b : Builtin) (ts : Array TypeId) (args : List AV) : Run := fun P _ h nx k => builtinK b ts args P h nx k
def calleeK (c : Callee) (ts : Array TypeId) (args : List AV) : Run :=
  @Callee.rec (fun _ => Array TypeId → List AV → Run) calleeValue calleeInvoke calleeBuiltin c ts args

def opCall (c : Call) : Run := fun P r h nx k => calleeK c.callee c.argTypes (evs h r c.args.toList) P r h nx k

def opDefer (c : Call) : Run := fun _ r h _ k => match c.callee with
  | .value f => (match ev h r f with
    | .func g caps => k (.defer (.call g (evs h r c.args.toList ++ caps)))
    | _ => false)
  | _ => false

def opTypeAssert (x : Operand) (_xT asserted : TypeId) (ok : Bool) : Run := fun P r h nx k =>
  match P.underlying asserted with
  | some (.interface _) | none => false
  | some _ => match ev h r x with
    | .nilif => onTrue ok (onSome (zeroOf P asserted) fun z => k (.val (.tup [z, .bool false]) h nx))
    | .iface t v => if t = asserted then k (.val (if ok then .tup [v, .bool true] else v) h nx)
        else onTrue ok (onSome (zeroOf P asserted) fun z => k (.val (.tup [z, .bool false]) h nx))
    | _ => false

def exec (o : Op) : Run :=
  @Op.rec (fun _ => Run)
    opMove opMove opPick opAlloc opBox opBuild opBuildSlice opMapUpdate opLoad opStore (fun _ => fail0) (fun _ => fail0) opNilCheck opBin opUn opConvert (fun _ _ => fail0)
    opMakeInterface opMakeFunc opMakeMap (fun _ _ => fail0) opMakeSlice opSlice opFieldAddr opField opIndexAddr opIndex opLookup opMapUpdate (fun _ _ _ => fail0) (fun _ _ _ _ => fail0)
    opRange opNext opEntry opTypeAssert opExtract opCall (fun _ => fail0) opDefer (fun _ => fail0) (fun _ _ => fail0) (fun _ _ _ => fail0) (fun _ _ => fail0) o

end
end Go.Proofs.YtfcoffpmcmhieaaGreatDoor.AI
namespace Go.Proofs.YtfcoffpmcmhieaaGreatDoor.AI
noncomputable section

/-! ### A region that draws its order -/
/-- An operation that must stand in the chain: it acts, or fills a literal's map. -/
def effOp (P : Program) (o : Oper) : Bool := match o.op with | .insert .. => true | .assign _ => false | op => (Region.marks P.types op).effect
/-- An operation that leaves what lies there alone. -/
def calmOp : Op → Bool
  | .move _ | .assign _ | .pick .. | .alloc _ | .box .. | .build .. | .buildSlice .. | .load .. | .nilCheck _ | .binOp .. | .unOp .. | .convert .. | .makeInterface .. | .makeFunc .. | .makeMap .. | .makeSlice ..
  | .slice .. | .fieldAddr .. | .field .. | .indexAddr .. | .index .. | .lookup .. | .entry _ | .typeAssert .. | .extract .. => true
  | .call c => (match c.callee with | .builtin .len | .builtin .cap | .builtin .max | .builtin .min => true | _ => false)
  | _ => false
def asgOp : Op → Bool
  | .assign _ => true
  | _ => false

structure Gap where
  /-- what is reckoned here first -/
  first : List Oper
  /-- all that may run here -/
  live : List Oper
  /-- the assignments that are done by the end of this gap -/
  lay : List Oper
  eff : Option Oper

def befL (ops : Array Oper) : List Nat := (Region.before ops).toList
def isEff (P : Program) (l : List Oper) (i : Nat) : Bool := match l[i]? with | some o => effOp P o | none => false
def chainOf (P : Program) (l : List Oper) : List Nat := (List.range l.length).filter (isEff P l)
/-- How many of the chain are before. -/
def loOf (chain : List Nat) (b : Nat) : Nat := (chain.filter fun j => b.testBit j).length
/-- The first of the chain that it is before. -/
def lastOf (bef : List Nat) (i : Nat) : List Nat → Nat
  | [] => 0
  | e :: l => if (bef.getD e 0).testBit i then 0 else lastOf bef i l + 1

/-- The temporaries that an operation reads, with its guard's. -/
def readsT (l : List Oper) (o : Oper) : List Tmp :=
  (match o.guard with | some (j, _) => ((l[j]?).bind (·.dst)).toList | none => []) ++ o.op.operands.toList.filterMap fun x => match x with | .tmp t => some t | _ => none

def pairOk (P : Program) (l : List Oper) (bef : List Nat) (j : Nat) (o : Oper) (i : Nat) (p : Oper) : Bool :=
  (i == j) || ((match p.dst with
    | some t => !(o.dst == some t) && (!(readsT l o).contains t || (if asgOp p.op then (bef.getD i 0).testBit j else (bef.getD j 0).testBit i))
    | none => true) && (!(effOp P o && effOp P p && Nat.blt i j) || (bef.getD j 0).testBit i))
def operOk (P : Program) (l : List Oper) (bef : List Nat) (j : Nat) (o : Oper) : Bool :=
  (effOp P o || (calmOp o.op && o.dst.isSome)) && (asgOp o.op || (match o.dst with | some t => !(readsT l o).contains t | none => true)) && (o.after.toList.all fun e => !Region.binds .any e || Nat.blt e.on j) &&
    (List.range l.length).all fun i => match l[i]? with | some p => pairOk P l bef j o i p | none => true
def statOk (P : Program) (l : List Oper) (bef : List Nat) : Bool := (List.range l.length).all fun j => match l[j]? with | some o => operOk P l bef j o | none => true

/-- The operations that are none of the chain, with their first and their last gap. -/
def infoOf (P : Program) (l : List Oper) (bef : List Nat) (chain : List Nat) : List (Oper × Nat × Nat) :=
  (List.range l.length).filterMap fun i => if isEff P l i then none else (l[i]?).map fun o => (o, loOf chain (bef.getD i 0), lastOf bef i chain)
def gapOf (l : List Oper) (info : List (Oper × Nat × Nat)) (chain : List Nat) (g : Nat) : Gap :=
  { first := info.filterMap fun (o, lo, _) => if Nat.beq lo g then some o else none
    live := info.filterMap fun (o, lo, last) => if Nat.ble lo g && Nat.ble g last then some o else none
    lay := info.filterMap fun (o, _, last) => if Nat.beq last g && asgOp o.op then some o else none
    eff := (chain[g]?).bind fun i => l[i]? }
def gapsWith (P : Program) (l : List Oper) (bef chain : List Nat) : Option (List Gap) :=
  if statOk P l bef then some ((List.range (chain.length + 1)).map (gapOf l (infoOf P l bef chain) chain)) else none
def gapsOf (P : Program) (ops : Array Oper) : Option (List Gap) := gapsWith P ops.toList (befL ops) (chainOf P ops.toList)

/-! ### Frames -/
inductive AItem where
  | code (c : Code)
  | inBlock (id : Nat)
  | inLoop (c : Code)
  | inScope (c : Code)
  | ops (all : Array Oper) (l : List Oper)
  /-- at the start of a gap: `asg`: what is assigned, but not yet surely; `mks`: the names of the blocks that are made -/
  | dr (all : Array Oper) (gaps : List Gap) (asg : List (Tmp × AV)) (mks : List (Tmp × Nat))
  /-- while the operation at a gap's end runs -/
  | drw (all : Array Oper) (o : Oper) (gaps : List Gap) (asg : List (Tmp × AV)) (mks : List (Tmp × Nat))
  | beginRound
  | inRF (l : Nat)
  | endRF (l : Nat)

structure AF where
  fn : FuncId
  n : Nat
  r : R
  todo : List AItem
  defs : List ADef
  ret : Bool
  kind : CallKind
  rnd : Option Nat

def exitA (id : Nat) : List AItem → Option (List AItem)
  | .inBlock i :: k => if i == id then some k else exitA id k
  | _ :: k => exitA id k
  | [] => none

def gotoA (l : Nat) : List AItem → Option (List AItem)
  | .inScope body :: k => match findLabel body l with
    | some rest => some (.code rest :: .inScope body :: k)
    | none => gotoA l k
  | _ :: k => gotoA l k
  | [] => none

/-- What is common to a frame while its code runs. -/
structure FX where
  fn : FuncId
  n : Nat
  defs : List ADef
  kind : CallKind
  rnd : Option Nat

abbrev Go := List AItem → R → FX → List AF → H → Nat → Bool

/-- Functions whose calls are answered at once, by what is proved of them elsewhere. -/
abbrev ExtF := List AV → H → Nat → (AV → H → Nat → Bool) → (Unit → Bool) → Bool
abbrev Ext := FuncId → Option ExtF

/-- The registers are laid down, and the machine goes on. -/
def goR (go : Go) (k : List AItem) (x : FX) (cs : List AF) (h : H) (nx : Nat) (r : R) : Bool := go k r x cs h nx

def putSome (d : Tmp) (v : AV) (rest : List AItem) (r : R) (x : FX) (cs : List AF) (h : H) (nx : Nat) (go : Go) : Bool :=
  onTrue (Nat.blt d x.n) (r.setK d v (goR go rest x cs h nx))
def putNone (_ : AV) (rest : List AItem) (r : R) (x : FX) (cs : List AF) (h : H) (nx : Nat) (go : Go) : Bool := go rest r x cs h nx
/-- A value is put where an operation's result belongs. -/
def putDst (dst : Option Tmp) (v : AV) (rest : List AItem) (r : R) (x : FX) (cs : List AF) (h : H) (nx : Nat) (go : Go) : Bool :=
  @Option.rec Tmp (fun _ => AV → List AItem → R → FX → List AF → H → Nat → Go → Bool) putNone putSome dst v rest r x cs h nx go

/-- A call's result comes back to a frame that waits for it. -/
def finishA (v : AV) (todo : List AItem) (r : R) (x : FX) (cs : List AF) (h : H) (nx : Nat) (go : Go) : Bool :=
  match todo with
  | .ops all (o :: l) :: k => putDst o.dst v (.ops all l :: k) r x cs h nx go
  | .drw all o gs asg mks :: k => putDst o.dst v (.dr all gs asg mks :: k) r x cs h nx go
  | .inRF l :: k => go (.endRF l :: k) r x cs h nx
  | _ => false

/-- A function's results. -/
def resultsA (P : Program) (h : H) (r : R) : List ResultVar → List AV → (AV → Bool) → Bool
  | [], acc, k => (match acc with | [v] => k v | l => k (.tup l.reverse))
  | .tmp t :: l, acc, k => resultsA P h r l (r.get t :: acc) k
  | .cell a t :: l, acc, k => (r.get a).onPtr fun b o => loadK P h t b o fun v => resultsA P h r l (v :: acc) k

/-- Registers out of arguments. -/
def regsK : List AV → Nat → R → (R → Bool) → Bool
  | [], _, r, k => k r
  | v :: l, i, r, k => r.setK i v fun r => regsK l (i + 1) r k

def enterA (P : Program) (f : FuncId) (args : List AV) (kind : CallKind) (cs : List AF) (h : H) (nx : Nat) (go : Go) : Bool :=
  onSome (P.funcs[f]?) fun fn => onSome fn.body fun body =>
    onTrue (decide (args.length ≤ 448) && decide (fn.ntmps ≤ 448))
      (regsK args 0 R.empty fun r => go [.code body] r ⟨f, max args.length fn.ntmps, [], kind, none⟩ cs h nx)

/-- The results of a function go to the one that called it. -/
def leaveTo (_ : Program) (post : AV → H → Bool) (x : FX) (cs : List AF) (h : H) (nx : Nat) (go : Go) (v : AV) : Bool :=
  match cs with
  | [] => (match x.kind with | .normal => post v h | _ => false)
  | c :: cs => match x.kind with
    | .normal => onTrue (!c.ret) (finishA v c.todo c.r ⟨c.fn, c.n, c.defs, c.kind, c.rnd⟩ cs h nx go)
    | .deferred => onTrue c.ret (go [] c.r ⟨c.fn, c.n, c.defs, c.kind, c.rnd⟩ cs h nx)
    | _ => false
/-- Leaving a function: its deferred calls, then its results. -/
def unwindA (P : Program) (post : AV → H → Bool) (r : R) (x : FX) (cs : List AF) (nx : Nat) (go : Go) : List ADef → H → Bool
  | .collected b :: ds, h => (match h.get b with | .defd false => h.setK b .dead (unwindA P post r x cs nx go ds) | _ => false)
  | .call f args :: ds, h => enterA P f args .deferred ({ fn := x.fn, n := x.n, r, todo := [], defs := ds, ret := true, kind := x.kind, rnd := x.rnd } :: cs) h nx go
  | [], h => onSome (P.funcs[x.fn]?) fun fn => resultsA P h r fn.results.toList [] (leaveTo P post x cs h nx go)

def onLoop (h : H) (l : Nat) (k : LoopState → Option Code → FuncId → Nat → R → Array Tmp → Code → Code → Nat → Bool) : Bool :=
  match h.get l with
  | .loop st pend fn n r ps a b d => k st pend fn n r ps a b d
  | _ => false

/-- The frame leaves its code, by a jump or off its end. -/
def leaveA (P : Program) (post : AV → H → Bool) (jump : Option Code) (r : R) (x : FX) (cs : List AF) (h : H) (nx : Nat) (go : Go) : Bool :=
  match x.rnd with
  | none => (match jump with
    | none | some .ret => unwindA P post r x cs nx go x.defs h
    | _ => false)
  | some l => onLoop h l fun _ _ fn n r' ps a b d => match cs with
    | c :: cs => (match x.kind with
      | .normal => onTrue (!c.ret) (h.setK l (.loop (if jump.isNone then .ready else .done) jump fn n r' ps a b d) fun h =>
          finishA (.bool jump.isNone) c.todo c.r ⟨c.fn, c.n, c.defs, c.kind, c.rnd⟩ cs h nx go)
      | _ => false)
    | [] => false

def setRegs : List Tmp → List AV → Nat → R → (R → Bool) → Bool
  | [], [], _, r, k => k r
  | t :: ts, v :: vs, n, r, k => onTrue (Nat.blt t n) (r.setK t v fun r => setRegs ts vs n r k)
  | _, _, _, _, _ => false

/-- A round of a range over a function. -/
def roundA (l : Nat) (args : List AV) (me : AF) (cs : List AF) (h : H) (nx : Nat) (go : Go) : Bool :=
  onLoop h l fun _ _ fn n r ps a b _ => setRegs ps.toList args n r fun r =>
    go [.code a, .beginRound, .code b] r ⟨fn, n, [], .normal, some l⟩ (me :: cs) h nx

/-- What is needed to go on behind an operation. -/
structure OK where
  dst : Option Tmp
  /-- what is to do while a call runs, and behind it -/
  here : List AItem
  rest : List AItem
  r : R
  x : FX
  cs : List AF

def extRet (q : OK) (go : Go) (v : AV) (h : H) (nx : Nat) : Bool := putDst q.dst v q.rest q.r q.x q.cs h nx go
def frameOf (q : OK) : AF := { fn := q.x.fn, n := q.x.n, r := q.r, todo := q.here, defs := q.x.defs, ret := false, kind := q.x.kind, rnd := q.x.rnd }

def outVal (v : AV) (h : H) (nx : Nat) (_ : Program) (_ : Ext) (q : OK) (_ : H) (_ : Nat) (go : Go) : Bool := putDst q.dst v q.rest q.r q.x q.cs h nx go
def outEnter (f : FuncId) (args : List AV) (P : Program) (X : Ext) (q : OK) (h : H) (nx : Nat) (go : Go) : Bool :=
  @Option.rec ExtF (fun _ => Bool) (enterA P f args .normal (frameOf q :: q.cs) h nx go) (fun e => e args h nx (extRet q go) fun _ => enterA P f args .normal (frameOf q :: q.cs) h nx go) (X f)
def outRound (l : Nat) (args : List AV) (_ : Program) (_ : Ext) (q : OK) (h : H) (nx : Nat) (go : Go) : Bool := roundA l args (frameOf q) q.cs h nx go
def outDefer (d : ADef) (_ : Program) (_ : Ext) (q : OK) (h : H) (nx : Nat) (go : Go) : Bool :=
  match q.x.rnd with
  | none => putDst q.dst (.tup []) q.rest q.r { q.x with defs := d :: q.x.defs } q.cs h nx go
  | some _ => false
def outRecover (_ : Program) (_ : Ext) (q : OK) (h : H) (nx : Nat) (go : Go) : Bool :=
  match q.x.rnd, q.x.kind, q.cs with
  | none, .deferred, c :: _ => onTrue c.ret (putDst q.dst .nilif q.rest q.r q.x q.cs h nx go)
  | _, _, _ => false

/-- What comes of an operation's outcome. -/
def outK (P : Program) (X : Ext) (q : OK) (h0 : H) (nx0 : Nat) (go : Go) (o : Out) : Bool :=
  @Out.rec (fun _ => Program → Ext → OK → H → Nat → Go → Bool) outVal outEnter outRound outDefer outRecover o P X q h0 nx0 go

/-- Does an operation's guard hold? `none`: that is not known. -/
def wantedG (all : Array Oper) (r : R) (g : Option (Nat × Bool)) : Option Bool :=
  match g with
  | none => some true
  | some (j, want) => match (all[j]?).bind (·.dst) with
    | some t => match r.get t with
      | .bool b => some (b == want)
      | .top => none
      | _ => some false
    | none => none
def wantedA (all : Array Oper) (r : R) (o : Oper) : Option Bool := wantedG all r o.guard

def opsRun (P : Program) (X : Ext) (o : Oper) (q : OK) (h : H) (nx : Nat) (go : Go) : Bool := exec o.op P q.r h nx (outK P X q h nx go)
def opsGuard (P : Program) (X : Ext) (all : Array Oper) (o : Oper) (q : OK) (h : H) (nx : Nat) (go : Go) (_ : Nat × Bool) : Bool :=
  onSome (wantedA all q.r o) fun w => @Bool.rec (fun _ => Bool) (putDst q.dst (.tup []) q.rest q.r q.x q.cs h nx go) (opsRun P X o q h nx go) w
def opsNil (all : Array Oper) (k : List AItem) (r : R) (x : FX) (cs : List AF) (h : H) (nx : Nat) (_ : Program) (_ : Ext) (go : Go) : Bool := let _ := all; go k r x cs h nx
def opsCons2 (P : Program) (X : Ext) (all : Array Oper) (o : Oper) (q : OK) (h : H) (nx : Nat) (go : Go) : Bool :=
  @Option.rec (Nat × Bool) (fun _ => Bool) (opsRun P X o q h nx go) (opsGuard P X all o q h nx go) o.guard
def opsCons (o : Oper) (l : List Oper) (all : Array Oper) (k : List AItem) (r : R) (x : FX) (cs : List AF) (h : H) (nx : Nat) (P : Program) (X : Ext) (go : Go) : Bool :=
  opsCons2 P X all o ⟨o.dst, .ops all (o :: l) :: k, .ops all l :: k, r, x, cs⟩ h nx go
def stepOps (P : Program) (X : Ext) (all : Array Oper) (l : List Oper) (k : List AItem) (r : R) (x : FX) (cs : List AF) (h : H) (nx : Nat) (go : Go) : Bool :=
  @List.casesOn Oper (fun _ => Array Oper → List AItem → R → FX → List AF → H → Nat → Program → Ext → Go → Bool) l opsNil opsCons all k r x cs h nx P X go

/-- The first reckonings of a gap. -/
def firstK (P : Program) (all : Array Oper) (n : Nat) : List Oper → R → H → Nat → List (Tmp × AV) → List (Tmp × Nat) → (R → H → Nat → List (Tmp × AV) → List (Tmp × Nat) → Bool) → Bool
  | [], r, h, nx, asg, mks, k => k r h nx asg mks
  | o :: l, r, h, nx, asg, mks, k => onSome (wantedA all r o) fun w => onSome o.dst fun d => onTrue (Nat.blt d n)
    (if w then exec o.op P r h nx fun out => match out with
      | .val v h' nx' =>
        if asgOp o.op then firstK P all n l r h nx ((d, v) :: asg) mks k
        else if Nat.beq nx' nx then r.setK d v fun r => firstK P all n l r h nx asg mks k
        else onTrue (Nat.blt nx 3583) (h.setK nx (h'.get nx) fun h => forceN (nx + 1) fun nx1 => r.setK d v fun r => firstK P all n l r h nx1 asg ((d, nx) :: mks) k)
      | _ => false
    else if asgOp o.op then firstK P all n l r h nx ((d, .tup []) :: asg) mks k
    else r.setK d (.tup []) fun r => firstK P all n l r h nx asg mks k)

def mksOk : List (Tmp × Nat) → Nat → Bool
  | [], _ => true
  | (_, id) :: l, nx => Nat.blt id nx && mksOk l id

/-- The same value, but for the name of a new block. -/
def renEq (v u : AV) (nx : Nat) : Option Nat :=
  match v, u with
  | .ptr a 0, .ptr b 0 => if Nat.beq a nx then some b else none
  | .map a, .map b => if Nat.beq a nx then some b else none
  | .slice a 0 l c e s, .slice b 0 l' c' e' s' => if Nat.beq a nx && l == l' && c == c' && e == e' && s == s' then some b else none
  | _, _ => none
def optEq : Option AV → Option AV → Bool
  | none, none => true
  | some a, some b => avEq a b
  | _, _ => false
def tEq : T AV → T AV → Bool
  | .leaf, .leaf => true
  | .node l v r, .node l' v' r' => optEq v v' && tEq l l' && tEq r r'
  | _, _ => false
def blkEq : Blk → Blk → Bool
  | .cells n t z, .cells n' t' z' => n == n' && avsEq z z' && tEq t t'
  | .map [] v, .map [] v' => v == v'
  | _, _ => false

def chkOut (h : H) (nx : Nat) (u : AV) (d : Tmp) (mks : List (Tmp × Nat)) : K := fun out => match out with
  | .val v h' nx' => if Nat.beq nx' nx then avEq v u else (match renEq v u nx with
    | some id => (mks.any fun p => p.1 == d && p.2 == id) && blkEq (h'.get nx) (h.get id)
    | none => false)
  | _ => false
def valOf (o : Oper) (d : Tmp) (r : R) (asg : List (Tmp × AV)) : Option AV := if asgOp o.op then asg.lookup d else some (r.get d)
def isUnit (u : AV) : Bool := match u with | .tup [] => true | _ => false
/-- All that may run in a gap comes to what was reckoned. -/
def chkK (P : Program) (all : Array Oper) (r : R) (h : H) (nx : Nat) (asg : List (Tmp × AV)) (mks : List (Tmp × Nat)) : List Oper → Bool → Bool
  | [], k => k
  | o :: l, k => onSome (wantedA all r o) fun w => onSome o.dst fun d => onSome (valOf o d r asg) fun u =>
    onTrue (if w then exec o.op P r h nx (chkOut h nx u d mks) else isUnit u) (chkK P all r h nx asg mks l k)

/-- What is surely assigned is laid down. -/
def layK : List Oper → List (Tmp × AV) → R → (R → List (Tmp × AV) → Bool) → Bool
  | [], asg, r, k => k r asg
  | o :: l, asg, r, k => onSome o.dst fun d => onSome (asg.lookup d) fun v => r.setK d v fun r => layK l (asg.filter fun p => !(p.1 == d)) r k

def drEff (P : Program) (X : Ext) (all : Array Oper) (gs : List Gap) (mks : List (Tmp × Nat)) (k : List AItem) (x : FX) (cs : List AF) (h : H) (nx : Nat) (go : Go) (eff : Option Oper) (r : R) (asg : List (Tmp × AV)) : Bool :=
  match eff with
  | none => go (.dr all gs asg mks :: k) r x cs h nx
  | some o => onSome (wantedA all r o) fun w => @Bool.rec (fun _ => Bool) (putDst o.dst (.tup []) (.dr all gs asg mks :: k) r x cs h nx go)
      (opsRun P X o ⟨o.dst, .drw all o gs asg mks :: k, .dr all gs asg mks :: k, r, x, cs⟩ h nx go) w
def stepDr (P : Program) (X : Ext) (all : Array Oper) (gs : List Gap) (asg : List (Tmp × AV)) (mks : List (Tmp × Nat)) (k : List AItem) (r : R) (x : FX) (cs : List AF) (h : H) (nx : Nat) (go : Go) : Bool :=
  match gs with
  | [] => onTrue asg.isEmpty (go k r x cs h nx)
  | g :: gs => firstK P all x.n g.first r h nx asg mks fun r h nx asg mks => onTrue (mksOk mks nx) (chkK P all r h nx asg mks g.live
      (layK g.lay asg r (drEff P X all gs mks k x cs h nx go g.eff)))

/-- Entering a range over a function. -/
def rangeStart (P : Program) (f : AV) (ps : Array Tmp) (assign body : Code) (k : List AItem) (r : R) (x : FX) (cs : List AF) (go : Go) (defers : Nat) (defs : List ADef) (nx : Nat) (h : H) : Bool :=
  onTrue (Nat.blt nx 3583) (h.setK nx (.loop .ready none x.fn x.n r ps assign body defers) fun h => match f with
    | .func g caps => forceN (nx + 1) fun nx' => enterA P g (.yield nx :: caps) .normal ({ fn := x.fn, n := x.n, r, todo := .inRF nx :: k, defs, ret := false, kind := x.kind, rnd := x.rnd } :: cs) h nx' go
    | _ => false)
def rangeFuncA (P : Program) (f : Operand) (ps : Array Tmp) (assign body : Code) (k : List AItem) (r : R) (x : FX) (cs : List AF) (h : H) (nx : Nat) (go : Go) : Bool :=
  match x.rnd with
  | some l => onLoop h l fun _ _ _ _ _ _ _ _ d => rangeStart P (ev h r f) ps assign body k r x cs go d x.defs nx h
  | none => onTrue (Nat.blt nx 3583) (h.setK nx (.defd false) fun h' => forceN (nx + 1) fun nx' => rangeStart P (ev h r f) ps assign body k r x cs go nx (.collected nx :: x.defs) nx' h')

/-! ### The code's pieces -/
abbrev Step := Program → (AV → H → Bool) → List AItem → R → FX → List AF → H → Nat → Go → Bool
def cSkip : Step := fun _ _ k r x cs h nx go => go k r x cs h nx
def cSeq (a b : Code) : Step := fun _ _ k r x cs h nx go => go (.code a :: .code b :: k) r x cs h nx
def cond2 (a b : Code) (k : List AItem) (r : R) (x : FX) (cs : List AF) (h : H) (nx : Nat) (go : Go) (t : Bool) : Bool := go (.code (@Bool.rec (fun _ => Code) b a t) :: k) r x cs h nx
def cCond (c : Operand) (a b : Code) : Step := fun _ _ k r x cs h nx go => (ev h r c).onBool (cond2 a b k r x cs h nx go)
def cBlock (id : Nat) (c : Code) : Step := fun _ _ k r x cs h nx go => go (.code c :: .inBlock id :: k) r x cs h nx
def cLoop (c : Code) : Step := fun _ _ k r x cs h nx go => go (.code c :: .inLoop c :: k) r x cs h nx
def cScope (c : Code) : Step := fun _ _ k r x cs h nx go => go (.code c :: .inScope c :: k) r x cs h nx
def cExit (id : Nat) : Step := fun P post k r x cs h nx go => match exitA id k with
  | some k => go k r x cs h nx
  | none => leaveA P post (some (.exit id)) r x cs h nx go
def cGoto (l : Nat) : Step := fun P post k r x cs h nx go => match gotoA l k with
  | some k => go k r x cs h nx
  | none => leaveA P post (some (.goto l)) r x cs h nx go
def cRet : Step := fun P post _ r x cs h nx go => leaveA P post (some .ret) r x cs h nx go
def dstsOk (n : Nat) (l : List Oper) : Bool := l.all fun o => match o.dst with | some d => Nat.blt d n | none => true
def cRegionDraw (ops : Array Oper) : Step := fun P _ k r x cs h nx go => onTrue (dstsOk x.n ops.toList) (onSome (gapsOf P ops) fun gs => go (.dr ops gs [] [] :: k) r x cs h nx)
def cRegionPlain (ops : Array Oper) : Step := fun _ _ k r x cs h nx go => go (.ops ops ops.toList :: k) r x cs h nx
def cRegion (_ : Nat) (ops : Array Oper) (draw : Bool) : Step := @Bool.rec (fun _ => Array Oper → Step) cRegionPlain cRegionDraw draw ops
def cRangeFunc (f : Operand) (ps : Array Tmp) (a b : Code) : Step := fun P _ k r x cs h nx go => rangeFuncA P f ps a b k r x cs h nx go
def cRefuse (_ : String) : Step := fun _ _ _ _ _ _ _ _ _ => false
def stepCode (c : Code) : Step :=
  @Code.casesOn (fun _ => Step) c cSkip cRegion cSeq cCond cBlock cLoop cRangeFunc cExit cScope (fun _ => cSkip) cGoto cRet cRefuse

abbrev StepX := Program → Ext → (AV → H → Bool) → List AItem → R → FX → List AF → H → Nat → Go → Bool
def iCode (c : Code) : StepX := fun P _ post k r x cs h nx go => stepCode c P post k r x cs h nx go
def iPass : StepX := fun _ _ _ k r x cs h nx go => go k r x cs h nx
def iLoop (c : Code) : StepX := fun _ _ _ k r x cs h nx go => go (.code c :: .inLoop c :: k) r x cs h nx
def iOps (all : Array Oper) (l : List Oper) : StepX := fun P X _ k r x cs h nx go => stepOps P X all l k r x cs h nx go
def iDr (all : Array Oper) (gs : List Gap) (asg : List (Tmp × AV)) (mks : List (Tmp × Nat)) : StepX := fun P X _ k r x cs h nx go => stepDr P X all gs asg mks k r x cs h nx go
def iBegin : StepX := fun _ _ _ k r x cs h nx go => match x.rnd with
  | some l => onLoop h l fun st pend fn n r' ps a b d => (match st with
    | .ready => h.setK l (.loop .busy pend fn n r' ps a b d) fun h => go k r x cs h nx
    | _ => false)
  | none => false
def iFail (_ : Nat) : StepX := fun _ _ _ _ _ _ _ _ _ _ => false
def iEnd (l : Nat) : StepX := fun _ _ _ k r x cs h nx go => onLoop h l fun st pend fn n r' ps a b d => match st with
  | .busy => false
  | _ => h.setK l (.loop .exhausted pend fn n r' ps a b d) fun h => go ((pend.map AItem.code).toList ++ k) r x cs h nx
def stepI (i : AItem) : StepX :=
  @AItem.rec (fun _ => StepX) iCode (fun _ => iPass) iLoop (fun _ => iPass) iOps iDr (fun _ _ _ _ _ => iFail 0) iBegin iFail iEnd i

abbrev StepA := R → FX → List AF → H → Nat → Program → Ext → (AV → H → Bool) → Go → Bool
def aNil : StepA := fun r x cs h nx P _ post go => leaveA P post none r x cs h nx go
def aCons (i : AItem) (k : List AItem) : StepA := fun r x cs h nx P X post go => stepI i P X post k r x cs h nx go
def stepA (P : Program) (X : Ext) (post : AV → H → Bool) (todo : List AItem) (r : R) (x : FX) (cs : List AF) (h : H) (nx : Nat) (go : Go) : Bool :=
  @List.casesOn AItem (fun _ => StepA) todo aNil aCons r x cs h nx P X post go

def runNil : Go := fun _ _ _ _ _ _ => false
def run (P : Program) (X : Ext) (post : AV → H → Bool) (n : Nat) : Go :=
  @Nat.rec (fun _ => Go) runNil (fun _ ih todo r x cs h nx => stepA P X post todo r x cs h nx ih) n

end
end Go.Proofs.YtfcoffpmcmhieaaGreatDoor.AI
namespace Go.Proofs.YtfcoffpmcmhieaaGreatDoor.AI

theorem dig_eq (a b : Nat) (h : dig a = dig b) : min a 7 = min b 7 := by
  match a, b with
  | 0, 0 | 1, 1 | 2, 2 | 3, 3 | 4, 4 | 5, 5 | 6, 6 => rfl
  | a + 7, b + 7 => omega
  | 0, 1 | 0, 2 | 0, 3 | 0, 4 | 0, 5 | 0, 6 | 0, b + 7 => cases h
  | 1, 0 | 1, 2 | 1, 3 | 1, 4 | 1, 5 | 1, 6 | 1, b + 7 => cases h
  | 2, 0 | 2, 1 | 2, 3 | 2, 4 | 2, 5 | 2, 6 | 2, b + 7 => cases h
  | 3, 0 | 3, 1 | 3, 2 | 3, 4 | 3, 5 | 3, 6 | 3, b + 7 => cases h
  | 4, 0 | 4, 1 | 4, 2 | 4, 3 | 4, 5 | 4, 6 | 4, b + 7 => cases h
  | 5, 0 | 5, 1 | 5, 2 | 5, 3 | 5, 4 | 5, 6 | 5, b + 7 => cases h
  | 6, 0 | 6, 1 | 6, 2 | 6, 3 | 6, 4 | 6, 5 | 6, b + 7 => cases h
  | a + 7, 0 | a + 7, 1 | a + 7, 2 | a + 7, 3 | a + 7, 4 | a + 7, 5 | a + 7, 6 => cases h

section
variable {α : Type}
noncomputable def N8.put (i : D) (v : α) (x : N8 α) : N8 α := @N8.rec α (fun _ => N8 α) (fun a b c d e f g h => i.upd v a b c d e f g h) x

theorem N8.get_put_same (i : D) (v : α) (x : N8 α) : N8.get i (N8.put i v x) = v := by
  cases x; cases i <;> rfl
theorem N8.get_put_ne {i j : D} (v : α) (x : N8 α) (h : j ≠ i) : N8.get j (N8.put i v x) = N8.get j x := by
  cases x; cases i <;> cases j <;> first | rfl | exact absurd rfl h
theorem N8.get_all (i : D) (a : α) : N8.get i (N8.all a) = a := by cases i <;> rfl
theorem N8.atK_eq (i : D) (f : (α → Bool) → α → Bool) (k : N8 α → Bool) (x : N8 α) : N8.atK i f k x = f (fun v => k (N8.put i v x)) (N8.get i x) := by
  cases x; rfl
end

noncomputable def R.set (r : R) (n : Nat) (v : AV) : R :=
  N8.put (top2 n) (N8.put (dig1 n) (N8.put (dig0 n) v (N8.get (dig1 n) (N8.get (top2 n) r))) (N8.get (top2 n) r)) r
theorem R.setK_eq (r : R) (n : Nat) (v : AV) (k : R → Bool) : r.setK n v k = k (r.set n v) := by
  unfold R.setK R.set
  rw [N8.atK_eq, N8.atK_eq, N8.atK_eq]; rfl

theorem R.get_set_same (r : R) (n : Nat) (v : AV) : (r.set n v).get n = v := by
  unfold R.set R.get
  rw [N8.get_put_same, N8.get_put_same, N8.get_put_same]
theorem R.get_set_ne (r : R) {n t : Nat} (v : AV) (hn : n < 448) (h : t ≠ n) : (r.set n v).get t = r.get t := by
  unfold R.set R.get
  by_cases h2 : top2 t = top2 n
  · by_cases h1 : dig1 t = dig1 n
    · by_cases h0 : dig0 t = dig0 n
      · exfalso
        have e2 := dig_eq _ _ h2
        have e1 := dig_eq _ _ h1
        have e0 := dig_eq _ _ h0
        omega
      · rw [h2, h1, N8.get_put_same, N8.get_put_same, N8.get_put_ne _ _ h0]
    · rw [h2, N8.get_put_same, N8.get_put_ne _ _ h1]
  · rw [N8.get_put_ne _ _ h2]
theorem R.get_empty (t : Nat) : R.empty.get t = .top := by
  unfold R.empty R.get
  rw [N8.get_all, N8.get_all, N8.get_all]

noncomputable def H.set (h : H) (n : Nat) (b : Blk) : H :=
  N8.put (top3 n) (N8.put (dig2 n) (N8.put (dig1 n) (N8.put (dig0 n) b (N8.get (dig1 n) (N8.get (dig2 n) (N8.get (top3 n) h)))) (N8.get (dig2 n) (N8.get (top3 n) h))) (N8.get (top3 n) h)) h
theorem H.setK_eq (h : H) (n : Nat) (b : Blk) (k : H → Bool) : h.setK n b k = k (h.set n b) := by
  unfold H.setK H.set
  rw [N8.atK_eq, N8.atK_eq, N8.atK_eq, N8.atK_eq]; rfl
theorem H.get_set_same (h : H) (n : Nat) (b : Blk) : (h.set n b).get n = b := by
  unfold H.set H.get
  rw [N8.get_put_same, N8.get_put_same, N8.get_put_same, N8.get_put_same]
theorem H.get_set_ne (h : H) {n t : Nat} (b : Blk) (hn : n < 3584) (ht : t ≠ n) : (h.set n b).get t = h.get t := by
  unfold H.set H.get
  by_cases h3 : top3 t = top3 n
  · by_cases h2 : dig2 t = dig2 n
    · by_cases h1 : dig1 t = dig1 n
      · by_cases h0 : dig0 t = dig0 n
        · exfalso
          have e3 := dig_eq _ _ h3
          have e2 := dig_eq _ _ h2
          have e1 := dig_eq _ _ h1
          have e0 := dig_eq _ _ h0
          omega
        · rw [h3, h2, h1, N8.get_put_same, N8.get_put_same, N8.get_put_same, N8.get_put_ne _ _ h0]
      · rw [h3, h2, N8.get_put_same, N8.get_put_same, N8.get_put_ne _ _ h1]
    · rw [h3, N8.get_put_same, N8.get_put_ne _ _ h2]
  · rw [N8.get_put_ne _ _ h3]
theorem H.get_empty (t : Nat) : H.empty.get t = .dead := by
  unfold H.empty H.get
  rw [N8.get_all, N8.get_all, N8.get_all, N8.get_all]

/-! ### Tries -/
section
variable {α : Type}
theorem T.get_leaf (n : Nat) : (T.leaf : T α).get n = none := rfl
theorem T.get_zero (l : T α) (v : Option α) (r : T α) : (T.node l v r).get 0 = v := rfl
theorem T.get_even (l : T α) (v : Option α) (r : T α) (m : Nat) (h : m % 2 = 0) : (T.node l v r).get (m + 1) = l.get (m / 2) := by
  show @Nat.rec (fun _ => Option α) (l.get (m / 2)) (fun _ _ => r.get (m / 2)) (m % 2) = _
  rw [h]; rfl
theorem T.get_odd (l : T α) (v : Option α) (r : T α) (m : Nat) (h : m % 2 = 1) : (T.node l v r).get (m + 1) = r.get (m / 2) := by
  show @Nat.rec (fun _ => Option α) (l.get (m / 2)) (fun _ _ => r.get (m / 2)) (m % 2) = _
  rw [h]; rfl
theorem T.set_zero (l : T α) (v : Option α) (r : T α) (a : α) : (T.node l v r).set a 0 = .node l (some a) r := rfl
theorem T.set_even (l : T α) (v : Option α) (r : T α) (a : α) (m : Nat) (h : m % 2 = 0) : (T.node l v r).set a (m + 1) = .node (l.set a (m / 2)) v r := by
  show @Nat.rec (fun _ => T α) (T.node (l.set a (m / 2)) v r) (fun _ _ => T.node l v (r.set a (m / 2))) (m % 2) = _
  rw [h]; rfl
theorem T.set_odd (l : T α) (v : Option α) (r : T α) (a : α) (m : Nat) (h : m % 2 = 1) : (T.node l v r).set a (m + 1) = .node l v (r.set a (m / 2)) := by
  show @Nat.rec (fun _ => T α) (T.node (l.set a (m / 2)) v r) (fun _ _ => T.node l v (r.set a (m / 2))) (m % 2) = _
  rw [h]; rfl

theorem T.one_succ_zero (f : Nat) (a : α) : T.one (f + 1) a 0 = .node .leaf (some a) .leaf := rfl
theorem T.one_zero (a : α) (n : Nat) : T.one 0 a n = .node .leaf (some a) .leaf := rfl
theorem T.one_even (f : Nat) (a : α) (m : Nat) (h : m % 2 = 0) : T.one (f + 1) a (m + 1) = .node (T.one f a (m / 2)) none .leaf := by
  show @Nat.rec (fun _ => T α) (T.node (T.one f a (m / 2)) none .leaf) (fun _ _ => T.node .leaf none (T.one f a (m / 2))) (m % 2) = _
  rw [h]; rfl
theorem T.one_odd (f : Nat) (a : α) (m : Nat) (h : m % 2 = 1) : T.one (f + 1) a (m + 1) = .node .leaf none (T.one f a (m / 2)) := by
  show @Nat.rec (fun _ => T α) (T.node (T.one f a (m / 2)) none .leaf) (fun _ _ => T.node .leaf none (T.one f a (m / 2))) (m % 2) = _
  rw [h]; rfl

/-- The digits suffice. -/
theorem T.get_one (a : α) : ∀ (f n : Nat), n + 1 < 2 ^ (f + 1) → ∀ t, (T.one f a n).get t = if t = n then some a else none := by
  intro f
  induction f with
  | zero =>
    intro n hn t
    have hn0 : n = 0 := by simp at hn; omega
    subst hn0
    rw [T.one_zero]
    cases t with
    | zero => rfl
    | succ t =>
      rcases Nat.mod_two_eq_zero_or_one t with h | h
      · rw [T.get_even _ _ _ _ h]; simp [T.get_leaf]
      · rw [T.get_odd _ _ _ _ h]; simp [T.get_leaf]
  | succ f ih =>
    intro n hn t
    have hp : 2 ^ (f + 1 + 1) = 2 * 2 ^ (f + 1) := by rw [Nat.pow_succ]; omega
    cases n with
    | zero =>
      rw [T.one_succ_zero]
      cases t with
      | zero => rfl
      | succ t =>
        rcases Nat.mod_two_eq_zero_or_one t with h | h
        · rw [T.get_even _ _ _ _ h]; simp [T.get_leaf]
        · rw [T.get_odd _ _ _ _ h]; simp [T.get_leaf]
    | succ m =>
      rcases Nat.mod_two_eq_zero_or_one m with h | h
      · rw [T.one_even _ _ _ h]
        cases t with
        | zero => rw [T.get_zero, if_neg (by omega)]
        | succ t =>
          rcases Nat.mod_two_eq_zero_or_one t with h' | h'
          · rw [T.get_even _ _ _ _ h', ih (m / 2) (by omega) (t / 2)]
            by_cases e : t = m
            · subst e; simp
            · rw [if_neg (by omega), if_neg (by omega)]
          · rw [T.get_odd _ _ _ _ h', if_neg (by omega)]; rfl
      · rw [T.one_odd _ _ _ h]
        cases t with
        | zero => rw [T.get_zero, if_neg (by omega)]
        | succ t =>
          rcases Nat.mod_two_eq_zero_or_one t with h' | h'
          · rw [T.get_even _ _ _ _ h', if_neg (by omega)]; rfl
          · rw [T.get_odd _ _ _ _ h', ih (m / 2) (by omega) (t / 2)]
            by_cases e : t = m
            · subst e; simp
            · rw [if_neg (by omega), if_neg (by omega)]

theorem T.get_set (t : T α) (a : α) : ∀ (n i : Nat), (t.set a n).get i = if i = n then some a else t.get i := by
  induction t with
  | leaf =>
    intro n i
    show (T.one n.log2.succ a n).get i = _
    have hlt : n < 2 ^ (n.log2 + 1) := Nat.lt_log2_self
    rw [T.get_one a _ _ (by rw [show n.log2.succ + 1 = (n.log2 + 1) + 1 from rfl, Nat.pow_succ]; have := Nat.one_le_two_pow (n := n.log2 + 1); omega)]
    rfl
  | node l v r ihl ihr =>
    intro n i
    cases n with
    | zero =>
      rw [T.set_zero]
      cases i with
      | zero => rfl
      | succ i =>
        rw [if_neg (by omega)]
        rcases Nat.mod_two_eq_zero_or_one i with h | h
        · rw [T.get_even _ _ _ _ h, T.get_even _ _ _ _ h]
        · rw [T.get_odd _ _ _ _ h, T.get_odd _ _ _ _ h]
    | succ m =>
      rcases Nat.mod_two_eq_zero_or_one m with h | h
      · rw [T.set_even _ _ _ _ _ h]
        cases i with
        | zero => rw [T.get_zero, T.get_zero, if_neg (by omega)]
        | succ i =>
          rcases Nat.mod_two_eq_zero_or_one i with h' | h'
          · rw [T.get_even _ _ _ _ h', T.get_even _ _ _ _ h', ihl]
            by_cases e : i = m
            · subst e; simp
            · rw [if_neg (by omega), if_neg (by omega)]
          · rw [T.get_odd _ _ _ _ h', T.get_odd _ _ _ _ h', if_neg (by omega)]
      · rw [T.set_odd _ _ _ _ _ h]
        cases i with
        | zero => rw [T.get_zero, T.get_zero, if_neg (by omega)]
        | succ i =>
          rcases Nat.mod_two_eq_zero_or_one i with h' | h'
          · rw [T.get_even _ _ _ _ h', T.get_even _ _ _ _ h', if_neg (by omega)]
          · rw [T.get_odd _ _ _ _ h', T.get_odd _ _ _ _ h', ihr]
            by_cases e : i = m
            · subst e; simp
            · rw [if_neg (by omega), if_neg (by omega)]

theorem T.get_ofListFrom : ∀ (l : List α) (i : Nat) (t : T α) (j : Nat),
    (T.ofListFrom l i t).get j = if i ≤ j ∧ j < i + l.length then l[j - i]? else t.get j := by
  intro l
  induction l with
  | nil => intro i t j; rw [if_neg (by simp)]; rfl
  | cons a l ih =>
    intro i t j
    show (T.ofListFrom l (i + 1) (t.set a i)).get j = _
    rw [ih, T.get_set]
    by_cases h : i + 1 ≤ j ∧ j < i + 1 + l.length
    · rw [if_pos h, if_pos (by simp; omega)]
      have : j - i = (j - (i + 1)) + 1 := by omega
      rw [this]; rfl
    · rw [if_neg h]
      by_cases e : j = i
      · subst e; simp
      · rw [if_neg e, if_neg (by simp; omega)]

theorem T.get_ofList (l : List α) (j : Nat) : (T.ofList l).get j = l[j]? := by
  unfold T.ofList
  rw [T.get_ofListFrom]
  by_cases h : j < l.length
  · rw [if_pos (by omega)]; simp
  · rw [if_neg (by omega), T.get_leaf, List.getElem?_eq_none (by omega)]
end

theorem get_setCells : ∀ (l : List AV) (t : T AV) (o j : Nat), (setCells t l o).get j = if o ≤ j ∧ j < o + l.length then l[j - o]? else t.get j := by
  intro l
  induction l with
  | nil => intro t o j; rw [if_neg (by simp)]; rfl
  | cons a l ih =>
    intro t o j
    show (setCells (t.set a o) l (o + 1)).get j = _
    rw [ih, T.get_set]
    by_cases h : o + 1 ≤ j ∧ j < o + 1 + l.length
    · rw [if_pos h, if_pos (by simp; omega)]
      have : j - o = (j - (o + 1)) + 1 := by omega
      rw [this]; rfl
    · rw [if_neg h]
      by_cases e : j = o
      · subst e; simp
      · rw [if_neg e, if_neg (by simp; omega)]

/-! ### The small eliminators -/
theorem onSome_true {α : Type} {o : Option α} {k : α → Bool} (h : onSome o k = true) : ∃ a, o = some a ∧ k a = true := by
  cases o with
  | none => cases h
  | some a => exact ⟨a, rfl, h⟩
theorem onTrue_true {b k : Bool} (h : onTrue b k = true) : b = true ∧ k = true := by
  cases b with
  | false => cases h
  | true => exact ⟨rfl, h⟩
theorem forceN_eq (n : Nat) (k : Nat → Bool) : forceN n k = k n := by cases n <;> rfl
theorem onNat_true {n : Int} {k : Nat → Bool} (h : onNat n k = true) : ∃ m : Nat, n = m ∧ k m = true := by
  cases n with
  | ofNat m => exact ⟨m, rfl, h⟩
  | negSucc m => cases h
theorem AV.onInt_true {a : AV} {k : IntKind → Int → Bool} (h : a.onInt k = true) : ∃ kd n, a = .int kd n ∧ k kd n = true := by
  cases a <;> first | exact ⟨_, _, rfl, h⟩ | cases h
theorem AV.onBool_true {a : AV} {k : Bool → Bool} (h : a.onBool k = true) : ∃ b, a = .bool b ∧ k b = true := by
  cases a <;> first | exact ⟨_, rfl, h⟩ | cases h
theorem AV.onPtr_true {a : AV} {k : Nat → Nat → Bool} (h : a.onPtr k = true) : ∃ b o, a = .ptr b o ∧ k b o = true := by
  cases a <;> first | exact ⟨_, _, rfl, h⟩ | cases h
theorem AV.onSlice_true {a : AV} {k : Nat → Nat → Nat → Nat → Bool → Nat → Bool} (h : a.onSlice k = true) : ∃ b o l c e s, a = .slice b o l c e s ∧ k b o l c e s = true := by
  cases a <;> first | exact ⟨_, _, _, _, _, _, rfl, h⟩ | cases h
theorem AV.onIntOr_true {a : AV} {k : IntKind → Int → Bool} {e : Bool} (h : a.onIntOr k e = true) : (∃ kd n, a = .int kd n ∧ k kd n = true) ∨ e = true := by
  cases a <;> first | exact .inl ⟨_, _, rfl, h⟩ | exact .inr h
theorem kEq_true {a b : IntKind} (h : kEq a b = true) : a = b := by
  cases a <;> cases b <;> first | rfl | cases h
theorem Blk.onCells_true {b : Blk} {k : Nat → T AV → List AV → Bool} (h : b.onCells k = true) : ∃ n t z, b = .cells n t z ∧ k n t z = true := by
  cases b <;> first | exact ⟨_, _, _, rfl, h⟩ | cases h
theorem onMap_true {h : H} {b : Nat} {k : List (AV × AV) → Nat → Bool} (e : onMap h b k = true) : ∃ l ver, h.get b = .map l ver ∧ k l ver = true := by
  unfold onMap at e
  split at e
  · rename_i l ver hb; exact ⟨l, ver, hb, e⟩
  · cases e

/-- The cell of a block of known cells. -/
noncomputable def cellOf (t : T AV) (z : List AV) (o : Nat) : Option AV := match t.get o with | some a => some a | none => z[o % z.length]?

theorem cellAt_true {n : Nat} {t : T AV} {z : List AV} {o : Nat} {k : AV → Bool} (h : cellAt n t z o k = true) : o < n ∧ ∃ a, cellOf t z o = some a ∧ k a = true := by
  unfold cellAt at h
  cases hlt : Nat.blt o n with
  | false => rw [hlt] at h; cases h
  | true =>
    rw [hlt] at h
    have hl : o < n := by simpa [Nat.blt_eq] using hlt
    refine ⟨hl, ?_⟩
    unfold cellOf
    cases ho : t.get o with
    | none => rw [ho] at h; exact onSome_true h
    | some a => rw [ho] at h; exact ⟨a, rfl, h⟩

theorem cellsAt_true {n : Nat} {t : T AV} {z : List AV} : ∀ {m o : Nat} {k : List AV → Bool}, cellsAt n t z o m k = true →
    (m = 0 ∨ o + m ≤ n) ∧ ∃ l, l.length = m ∧ (∀ i, i < m → cellOf t z (o + i) = l[i]?) ∧ k l = true := by
  intro m
  induction m with
  | zero => intro o k h; exact ⟨.inl rfl, [], rfl, fun i hi => absurd hi (by omega), h⟩
  | succ m ih =>
    intro o k h
    obtain ⟨hlt, a, ha, h⟩ := cellAt_true (show cellAt n t z o (fun v => cellsAt n t z (o + 1) m fun l => k (v :: l)) = true from h)
    obtain ⟨hb, l, hl, hc, hk⟩ := ih h
    refine ⟨.inr (by omega), a :: l, by simp [hl], fun i hi => ?_, hk⟩
    cases i with
    | zero => simpa using ha
    | succ i =>
      have := hc i (by omega)
      rw [show o + (i + 1) = o + 1 + i from by omega, this]; rfl

end Go.Proofs.YtfcoffpmcmhieaaGreatDoor.AI
namespace Go.Proofs.YtfcoffpmcmhieaaGreatDoor.AI

/-- Where an abstract block lies: in which of the model's blocks, from which cell on, how many cells that block has. -/
structure Loc where
  blk : Nat
  off : Nat
  size : Nat

abbrev Ren := Nat → Option Loc
def Ren.le (ρ ρ' : Ren) : Prop := ∀ i L, ρ i = some L → ρ' i = some L
theorem Ren.le_refl (ρ : Ren) : ρ.le ρ := fun _ _ h => h
theorem Ren.le_trans {a b c : Ren} (h : a.le b) (k : b.le c) : a.le c := fun i L x => k i L (h i L x)

/-! ### What else a step leaves as it was -/
structure SO (w w' : World) : Prop where
  os : w'.os = w.os
  output : w'.output = w.output
  cells : ∀ (i : Nat) (c : Array Value) (t : TypeId) (fr : Nat × Nat), w.heap[i]? = some (.cells c t fr) → ∃ c', w'.heap[i]? = some (.cells c' t fr) ∧ c'.size = c.size
theorem SO.refl (w : World) : SO w w := ⟨rfl, rfl, fun _ c _ _ h => ⟨c, h, rfl⟩⟩
theorem SO.trans {a b c : World} (h : SO a b) (k : SO b c) : SO a c := ⟨k.os.trans h.os, k.output.trans h.output, fun i x t fr hi => by
  obtain ⟨y, h1, h2⟩ := h.cells i x t fr hi
  obtain ⟨z, h3, h4⟩ := k.cells i y t fr h1
  exact ⟨z, h3, h4.trans h2⟩⟩
theorem SO.push {w w' : World} {o : Obj} (h : w'.heap = w.heap.push o) (h1 : w'.os = w.os) (h2 : w'.output = w.output) : SO w w' := ⟨h1, h2, fun i c t fr hi => by
  have hlt : i < w.heap.size := (Array.getElem?_eq_some_iff.1 hi).1
  exact ⟨c, by rw [h, Array.getElem?_push, if_neg (by omega)]; exact hi, rfl⟩⟩
theorem SO.one {w w' : World} {b : Nat} {c c' : Array Value} {t : TypeId} {fr : Nat × Nat} (hb : w.heap[b]? = some (.cells c t fr)) (hb' : w'.heap[b]? = some (.cells c' t fr)) (hc : c'.size = c.size)
    (ho : ∀ j, j ≠ b → w'.heap[j]? = w.heap[j]?) (h1 : w'.os = w.os) (h2 : w'.output = w.output) : SO w w' := ⟨h1, h2, fun i d u gr hi => by
  by_cases e : i = b
  · subst e; rw [hb] at hi; cases hi; exact ⟨c', hb', hc⟩
  · exact ⟨d, by rw [ho i e]; exact hi, rfl⟩⟩
theorem SO.other {w w' : World} {b : Nat} (hb : ∀ c t fr, w.heap[b]? ≠ some (.cells c t fr)) (ho : ∀ j, j ≠ b → w'.heap[j]? = w.heap[j]?) (h1 : w'.os = w.os) (h2 : w'.output = w.output) : SO w w' := ⟨h1, h2, fun i d u gr hi => by
  by_cases e : i = b
  · subst e; exact absurd hi (hb _ _ _)
  · exact ⟨d, by rw [ho i e]; exact hi, rfl⟩⟩

/-! ### Values -/
mutual
def VR (ρ : Ren) : AV → Value → Prop
  | .top, _ => True
  | .bool b, v => v = .bool b
  | .int k n, v => v = .int k n
  | .str s, v => v = .string ⟨⟨s⟩⟩
  | .nilptr, v => v = .pointer none
  | .ptr b o, v => ∃ L, ρ b = some L ∧ v = .pointer (some ⟨L.blk, L.off + o, none⟩)
  | .nilslice, v => v = .slice none 0 0
  | .slice b o len cap ex sz, v => ∃ L co c, ρ b = some L ∧ v = .slice (some ⟨L.blk, co, none⟩) len c ∧ (ex = true → c = cap) ∧ cap ≤ c ∧ len ≤ cap ∧
      (0 < c → co = L.off + o ∧ co + c * sz ≤ L.size)
  | .nilmap, v => v = .map none
  | .map b, v => ∃ L, ρ b = some L ∧ v = .map (some L.blk)
  | .nilfunc, v => v = .nilFunc
  | .func f l, v => ∃ cs, v = .func (.func f) #[] cs ∧ VRs ρ l cs.toList
  | .meth f a, v => ∃ x, v = .func (.func f) #[x] #[] ∧ VR ρ a x
  | .yield l, v => ∃ L, ρ l = some L ∧ v = .func (.yield L.blk) #[] #[]
  | .nilif, v => v = .nilIface
  | .iface t a, v => ∃ x, v = .iface t x ∧ VR ρ a x
  | .agg l, v => ∃ cs, v = .agg cs ∧ VRs ρ l cs.toList
  | .tup l, v => ∃ cs, v = .tuple cs ∧ VRs ρ l cs.toList
def VRs (ρ : Ren) : List AV → List Value → Prop
  | [], vs => vs = []
  | a :: l, vs => ∃ v r, vs = v :: r ∧ VR ρ a v ∧ VRs ρ l r
end

mutual
theorem VR.mono {ρ ρ' : Ren} (hle : ρ.le ρ') : ∀ (a : AV) {v : Value}, VR ρ a v → VR ρ' a v
  | .top, _, _ => by simp only [VR]
  | .bool _, _, h => by simp only [VR] at h ⊢; exact h
  | .int _ _, _, h => by simp only [VR] at h ⊢; exact h
  | .str _, _, h => by simp only [VR] at h ⊢; exact h
  | .nilptr, _, h => by simp only [VR] at h ⊢; exact h
  | .ptr _ _, _, h => by simp only [VR] at h ⊢; obtain ⟨L, h1, h2⟩ := h; exact ⟨L, hle _ _ h1, h2⟩
  | .nilslice, _, h => by simp only [VR] at h ⊢; exact h
  | .slice _ _ _ _ _ _, _, h => by simp only [VR] at h ⊢; obtain ⟨L, co, c, h1, h2⟩ := h; exact ⟨L, co, c, hle _ _ h1, h2⟩
  | .nilmap, _, h => by simp only [VR] at h ⊢; exact h
  | .map _, _, h => by simp only [VR] at h ⊢; obtain ⟨L, h1, h2⟩ := h; exact ⟨L, hle _ _ h1, h2⟩
  | .nilfunc, _, h => by simp only [VR] at h ⊢; exact h
  | .func _ l, _, h => by simp only [VR] at h ⊢; obtain ⟨cs, h1, h2⟩ := h; exact ⟨cs, h1, VRs.mono hle l h2⟩
  | .meth _ a, _, h => by simp only [VR] at h ⊢; obtain ⟨x, h1, h2⟩ := h; exact ⟨x, h1, VR.mono hle a h2⟩
  | .yield _, _, h => by simp only [VR] at h ⊢; obtain ⟨L, h1, h2⟩ := h; exact ⟨L, hle _ _ h1, h2⟩
  | .nilif, _, h => by simp only [VR] at h ⊢; exact h
  | .iface _ a, _, h => by simp only [VR] at h ⊢; obtain ⟨x, h1, h2⟩ := h; exact ⟨x, h1, VR.mono hle a h2⟩
  | .agg l, _, h => by simp only [VR] at h ⊢; obtain ⟨cs, h1, h2⟩ := h; exact ⟨cs, h1, VRs.mono hle l h2⟩
  | .tup l, _, h => by simp only [VR] at h ⊢; obtain ⟨cs, h1, h2⟩ := h; exact ⟨cs, h1, VRs.mono hle l h2⟩
theorem VRs.mono {ρ ρ' : Ren} (hle : ρ.le ρ') : ∀ (l : List AV) {vs : List Value}, VRs ρ l vs → VRs ρ' l vs
  | [], _, h => by simp only [VRs] at h ⊢; exact h
  | a :: l, _, h => by
    simp only [VRs] at h ⊢
    obtain ⟨v, r, h1, h2, h3⟩ := h
    exact ⟨v, r, h1, VR.mono hle a h2, VRs.mono hle l h3⟩
end

section
variable {ρ : Ren}
theorem VRs_nil {vs : List Value} : VRs ρ [] vs ↔ vs = [] := by simp only [VRs]
theorem VRs_cons {a : AV} {l : List AV} {vs : List Value} : VRs ρ (a :: l) vs ↔ ∃ v r, vs = v :: r ∧ VR ρ a v ∧ VRs ρ l r := by simp only [VRs]
theorem VRs_cons_cons {a : AV} {l : List AV} {v : Value} {r : List Value} : VRs ρ (a :: l) (v :: r) ↔ VR ρ a v ∧ VRs ρ l r := by
  rw [VRs_cons]
  constructor
  · rintro ⟨v', r', h, h1, h2⟩; cases h; exact ⟨h1, h2⟩
  · rintro ⟨h1, h2⟩; exact ⟨v, r, rfl, h1, h2⟩
theorem VRs.length : ∀ {l : List AV} {vs : List Value}, VRs ρ l vs → vs.length = l.length
  | [], _, h => by rw [VRs_nil] at h; subst h; rfl
  | a :: l, _, h => by
    obtain ⟨v, r, rfl, _, h2⟩ := VRs_cons.1 h
    simp [h2.length]
theorem VRs.get : ∀ {l : List AV} {vs : List Value}, VRs ρ l vs → ∀ (i : Nat) (a : AV), l[i]? = some a → ∃ v, vs[i]? = some v ∧ VR ρ a v
  | [], _, _, i, a, h => by simp at h
  | b :: l, _, h, i, a, hi => by
    obtain ⟨v, r, rfl, h1, h2⟩ := VRs_cons.1 h
    cases i with
    | zero => simp at hi; subst hi; exact ⟨v, rfl, h1⟩
    | succ i => exact h2.get i a (by simpa using hi)
theorem VRs.of_get : ∀ {l : List AV} {vs : List Value}, vs.length = l.length → (∀ (i : Nat) (a : AV), l[i]? = some a → ∃ v, vs[i]? = some v ∧ VR ρ a v) → VRs ρ l vs
  | [], vs, hl, _ => VRs_nil.2 (List.eq_nil_of_length_eq_zero (by simpa using hl))
  | a :: l, [], hl, _ => by simp at hl
  | a :: l, v :: r, hl, h => by
    refine VRs_cons_cons.2 ⟨?_, VRs.of_get (by simpa using hl) fun i b hb => ?_⟩
    · obtain ⟨v', hv, hr⟩ := h 0 a rfl; simp at hv; subst hv; exact hr
    · obtain ⟨v', hv, hr⟩ := h (i + 1) b (by simpa using hb); exact ⟨v', by simpa using hv, hr⟩
theorem VRs.append : ∀ {l m : List AV} {vs ws : List Value}, VRs ρ l vs → VRs ρ m ws → VRs ρ (l ++ m) (vs ++ ws)
  | [], _, _, _, h, k => by rw [VRs_nil] at h; subst h; exact k
  | a :: l, _, _, _, h, k => by
    obtain ⟨v, r, rfl, h1, h2⟩ := VRs_cons.1 h
    exact VRs_cons_cons.2 ⟨h1, h2.append k⟩
theorem VRs.take {l : List AV} {vs : List Value} (h : VRs ρ l vs) (n : Nat) : VRs ρ (l.take n) (vs.take n) := by
  refine VRs.of_get (by simp [h.length]) fun i a hi => ?_
  rw [List.getElem?_take] at hi ⊢
  split at hi
  · rename_i hlt; rw [if_pos hlt]; exact h.get i a hi
  · cases hi
theorem VRs.drop {l : List AV} {vs : List Value} (h : VRs ρ l vs) (n : Nat) : VRs ρ (l.drop n) (vs.drop n) := by
  refine VRs.of_get (by simp [h.length]) fun i a hi => ?_
  rw [List.getElem?_drop] at hi ⊢
  exact h.get _ a hi
theorem VRs.of_map {α : Type} (f : α → AV) (g : α → Value) (h : ∀ x, VR ρ (f x) (g x)) : ∀ l : List α, VRs ρ (l.map f) (l.map g)
  | [] => VRs_nil.2 rfl
  | x :: l => VRs_cons_cons.2 ⟨h x, VRs.of_map f g h l⟩
end

/-! ### Cells -/
theorem VR.cells {ρ : Ren} {a : AV} {v : Value} (h : VR ρ a v) (h1 : AV.allOne a.cells = true) : VRs ρ a.cells v.cells.toList := by
  cases a with
  | agg l => simp only [VR] at h; obtain ⟨cs, rfl, h⟩ := h; exact h
  | top => simp [AV.cells, AV.allOne, AV.oneCell] at h1
  | tup l => simp [AV.cells, AV.allOne, AV.oneCell] at h1
  | bool b => simp only [VR] at h; subst h; exact VRs_cons_cons.2 ⟨by simp only [VR], VRs_nil.2 rfl⟩
  | int k n => simp only [VR] at h; subst h; exact VRs_cons_cons.2 ⟨by simp only [VR], VRs_nil.2 rfl⟩
  | str s => simp only [VR] at h; subst h; exact VRs_cons_cons.2 ⟨by simp only [VR], VRs_nil.2 rfl⟩
  | nilptr => simp only [VR] at h; subst h; exact VRs_cons_cons.2 ⟨by simp only [VR], VRs_nil.2 rfl⟩
  | ptr b o => have h' := h; simp only [VR] at h; obtain ⟨L, h0, rfl⟩ := h; exact VRs_cons_cons.2 ⟨h', VRs_nil.2 rfl⟩
  | nilslice => simp only [VR] at h; subst h; exact VRs_cons_cons.2 ⟨by simp only [VR], VRs_nil.2 rfl⟩
  | slice b o l c e s => have h' := h; simp only [VR] at h; obtain ⟨L, co, c, h0, rfl, _⟩ := h; exact VRs_cons_cons.2 ⟨h', VRs_nil.2 rfl⟩
  | nilmap => simp only [VR] at h; subst h; exact VRs_cons_cons.2 ⟨by simp only [VR], VRs_nil.2 rfl⟩
  | map b => have h' := h; simp only [VR] at h; obtain ⟨L, h0, rfl⟩ := h; exact VRs_cons_cons.2 ⟨h', VRs_nil.2 rfl⟩
  | nilfunc => simp only [VR] at h; subst h; exact VRs_cons_cons.2 ⟨by simp only [VR], VRs_nil.2 rfl⟩
  | func f l => have h' := h; simp only [VR] at h; obtain ⟨cs, rfl, _⟩ := h; exact VRs_cons_cons.2 ⟨h', VRs_nil.2 rfl⟩
  | yield l => have h' := h; simp only [VR] at h; obtain ⟨L, h0, rfl⟩ := h; exact VRs_cons_cons.2 ⟨h', VRs_nil.2 rfl⟩
  | nilif => simp only [VR] at h; subst h; exact VRs_cons_cons.2 ⟨by simp only [VR], VRs_nil.2 rfl⟩
  | meth t x => have h' := h; simp only [VR] at h; obtain ⟨y, rfl, _⟩ := h; exact VRs_cons_cons.2 ⟨h', VRs_nil.2 rfl⟩
  | iface t x => have h' := h; simp only [VR] at h; obtain ⟨y, rfl, _⟩ := h; exact VRs_cons_cons.2 ⟨h', VRs_nil.2 rfl⟩

/-- A value of one cell is no aggregate and no tuple. -/
def flatV : Value → Prop
  | .agg _ | .tuple _ => False
  | _ => True

theorem VR.flat {ρ : Ren} {a : AV} {v : Value} (h : VR ρ a v) (h1 : a.oneCell = true) : flatV v := by
  cases a <;> first | (simp [AV.oneCell] at h1; done) | (simp only [VR] at h; subst h; trivial) | (simp only [VR] at h; obtain ⟨_, _, rfl⟩ := h; trivial) |
    (simp only [VR] at h; obtain ⟨_, rfl, _⟩ := h; trivial) | (simp only [VR] at h; obtain ⟨_, _, _, _, rfl, _⟩ := h; trivial)

/-! ### Closed values -/
theorem VR_ofS (ρ : Ren) (v : Value) : VR ρ (ofS v) v := by
  unfold ofS
  split <;> try (simp only [VR]; done)
  · split
    · rename_i f first captured h
      simp at h
      obtain ⟨rfl, rfl⟩ := h
      simp only [VR]
      exact ⟨#[], rfl, VRs_nil.2 rfl⟩
    · simp only [VR]
theorem VR_ofV (ρ : Ren) (v : Value) : VR ρ (ofV v) v := by
  unfold ofV
  split
  · simp only [VR]
    rename_i cs
    refine ⟨cs, rfl, ?_⟩
    have := VRs.of_map (ρ := ρ) ofS id (VR_ofS ρ) cs.toList
    simpa using this
  · simp only [VR]
    rename_i cs
    refine ⟨cs, rfl, ?_⟩
    have := VRs.of_map (ρ := ρ) ofS id (VR_ofS ρ) cs.toList
    simpa using this
  · exact VR_ofS ρ v

theorem VR_toS {ρ : Ren} {a : AV} {v v' : Value} (h : VR ρ a v) (ht : toS a = some v') : v = v' := by
  cases a <;> simp only [toS, Option.some.injEq] at ht <;> first | (simp only [VR] at h; subst h; exact ht) | cases ht
theorem VRs_toS {ρ : Ren} : ∀ {l : List AV} {vs vs' : List Value}, VRs ρ l vs → l.mapM toS = some vs' → vs = vs'
  | [], vs, vs', h, ht => by
    rw [VRs_nil] at h; simp at ht; rw [h, ← ht]
  | a :: l, vs, vs', h, ht => by
    obtain ⟨v, r, rfl, h1, h2⟩ := VRs_cons.1 h
    simp only [List.mapM_cons, Option.bind_eq_bind, Option.bind_eq_some_iff, Option.pure_def, Option.some.injEq] at ht
    obtain ⟨w, hw, ws, hws, rfl⟩ := ht
    rw [VR_toS h1 hw, VRs_toS h2 hws]
theorem VR_toV {ρ : Ren} {a : AV} {v v' : Value} (h : VR ρ a v) (ht : toV a = some v') : v = v' := by
  unfold toV at ht
  split at ht
  · rename_i l
    simp only [VR] at h
    obtain ⟨cs, rfl, h⟩ := h
    simp only [Option.map_eq_some_iff] at ht
    obtain ⟨vs, hvs, rfl⟩ := ht
    have := VRs_toS h hvs
    cases cs
    simp only at this
    rw [this]
  · exact VR_toS h ht

/-! ### Runs that ask nothing -/
theorem pureRun_run {α : Type} {P : Program} : ∀ {s : Sem α} {a : α}, pureRun P s = some a → ∀ w, s.run P w = .ok a w := by
  intro s
  induction s with
  | pure a => intro b h w; simp only [pureRun, Option.some.injEq] at h; subst h; rfl
  | program k ih => intro b h w; simp only [pureRun] at h; exact ih P h w
  | mark m k ih => intro b h w; simp only [pureRun] at h; exact ih h w
  | _ => intro b h w; simp [pureRun] at h

/-! ### Blocks -/
def rndR (ρ : Ren) (a : Option Nat) (b : Option Nat) : Prop :=
  match a with
  | none => b = none
  | some l => ∃ L, ρ l = some L ∧ b = some L.blk

structure RR (ρ : Ren) (n : Nat) (r : R) (tmps : Array Value) : Prop where
  size : tmps.size = n
  le : n ≤ 448
  val : ∀ t, VR ρ (r.get t) (tmps.getD t undef)

theorem RR.mono {ρ ρ' : Ren} (hle : ρ.le ρ') {n : Nat} {r : R} {tmps : Array Value} (h : RR ρ n r tmps) : RR ρ' n r tmps :=
  ⟨h.size, h.le, fun t => VR.mono hle _ (h.val t)⟩

theorem RR.set {ρ : Ren} {n : Nat} {r : R} {tmps : Array Value} (h : RR ρ n r tmps) {d : Nat} (hd : d < n) {a : AV} {v : Value} (hv : VR ρ a v) :
    RR ρ n (r.set d a) (tmps.setIfInBounds d v) := by
  refine ⟨by simp [h.size], h.le, fun t => ?_⟩
  by_cases e : t = d
  · subst e
    rw [R.get_set_same]
    have : t < tmps.size := by rw [h.size]; exact hd
    simp [this, hv]
  · rw [R.get_set_ne _ _ (by have := h.le; omega) e]
    have : (tmps.setIfInBounds d v).getD t undef = tmps.getD t undef := by
      simp [Array.getElem?_setIfInBounds_ne (Ne.symm e)]
    rw [this]; exact h.val t

/-- The entries of a map, in their order. -/
def EntR (ρ : Ren) (l : List (AV × AV)) (es : List MapEntry) : Prop :=
  es.length = l.length ∧ ∀ (i : Nat) (e : AV × AV), l[i]? = some e → ∃ m : MapEntry, es[i]? = some m ∧ VR ρ e.1 m.key ∧ VR ρ e.2 m.val

theorem EntR.mono {ρ ρ' : Ren} (hle : ρ.le ρ') {l : List (AV × AV)} {es : List MapEntry} (h : EntR ρ l es) : EntR ρ' l es :=
  ⟨h.1, fun i e he => let ⟨m, hm, h1, h2⟩ := h.2 i e he; ⟨m, hm, VR.mono hle _ h1, VR.mono hle _ h2⟩⟩

/-- A walk over a map: nothing has come in since it began; what is left is what has not been seen. -/
structure IterR (es : Array MapEntry) (clock since : Nat) (seen : Array Nat) (stepped : Nat) (left : List Nat) (cur : Option Nat) : Prop where
  since_eq : since = clock
  stepped_eq : stepped = clock
  nodup : left.Nodup
  lt : ∀ i ∈ left, i < es.size
  seen_iff : ∀ (i : Nat) (m : MapEntry), es[i]? = some m → (i ∈ left ↔ m.born ∉ seen)
  cur_eq : ∀ i, cur = some i → ∃ m : MapEntry, es[i]? = some m ∧ seen.back? = some m.born

/-- How an abstract block is found in the model's heap. -/
def BR (ρ : Ren) (h : H) (b : Blk) (L : Loc) (hp : Array Obj) : Prop :=
  match b with
  | .dead => True
  | .cells n t z => ∃ c e fr, hp[L.blk]? = some (.cells c e fr) ∧ c.size = L.size ∧ L.off + n ≤ c.size ∧ (∀ o, o < c.size → ¬ (fr.1 ≤ o ∧ o < fr.2)) ∧
      ∀ i, i < n → ∃ a, cellOf t z i = some a ∧ ∃ v, c[L.off + i]? = some v ∧ VR ρ a v ∧ flatV v
  | .map l _ => ∃ es clock, hp[L.blk]? = some (.map es clock) ∧ EntR ρ l es.toList ∧ (es.toList.map (·.born)).Nodup ∧ ∀ m ∈ es.toList, m.born < clock
  | .iter m ver left cur => ∃ Lm since seen stepped, L.off = 0 ∧ ρ m = some Lm ∧ hp[L.blk]? = some (.mapIter (some Lm.blk) since seen stepped) ∧
      ∀ l v, h.get m = .map l v → ver ≤ v ∧ (v = ver → ∀ es clock, hp[Lm.blk]? = some (.map es clock) → IterR es clock since seen stepped left cur)
  | .loop st pend fn n r ps a b d => ∃ tmps Ld, ρ d = some Ld ∧ RR ρ n r tmps ∧
      hp[L.blk]? = some (.loop { state := st, pending := pend, fn := fn, tmps := tmps, params := ps, assign := a, body := b, defers := Ld.blk })
  | .defd taken => hp[L.blk]? = some (.deferred (if taken then none else some []))

theorem BR.mono {ρ ρ' : Ren} (hle : ρ.le ρ') {h : H} {b : Blk} {L : Loc} {hp : Array Obj} (hb : BR ρ h b L hp) : BR ρ' h b L hp := by
  cases b with
  | dead => trivial
  | cells n t z =>
    obtain ⟨c, e, fr, h1, h2, h3, h4, h5⟩ := hb
    exact ⟨c, e, fr, h1, h2, h3, h4, fun i hi => let ⟨a, ha, v, hv, hr, hf⟩ := h5 i hi; ⟨a, ha, v, hv, VR.mono hle _ hr, hf⟩⟩
  | map l ver =>
    obtain ⟨es, clock, h1, h2, h3⟩ := hb
    exact ⟨es, clock, h1, h2.mono hle, h3⟩
  | iter m ver left cur =>
    obtain ⟨Lm, since, seen, stepped, h0, h1, h2⟩ := hb
    exact ⟨Lm, since, seen, stepped, h0, hle _ _ h1, h2⟩
  | loop st pend fn n r ps a b d =>
    obtain ⟨tmps, Ld, h1, h2, h3⟩ := hb
    exact ⟨tmps, Ld, hle _ _ h1, h2.mono hle, h3⟩
  | defd t => exact hb

/-- A block is found as before where its own place, and that of the map it walks over, are as before. -/
theorem BR.other {ρ : Ren} {h h' : H} {b : Blk} {L : Loc} {hp hp' : Array Obj} (hb : BR ρ h b L hp) (hs : hp'[L.blk]? = hp[L.blk]?)
    (hi : ∀ m ver left cur Lm l v, b = .iter m ver left cur → ρ m = some Lm → h'.get m = .map l v → (∃ l', h.get m = .map l' v) ∧ hp'[Lm.blk]? = hp[Lm.blk]?) :
    BR ρ h' b L hp' := by
  cases b with
  | dead => trivial
  | cells n t z => simp only [BR] at hb ⊢; rw [hs]; exact hb
  | map l ver => simp only [BR] at hb ⊢; rw [hs]; exact hb
  | iter m ver left cur =>
    obtain ⟨Lm, since, seen, stepped, h0, h1, h2, h3⟩ := hb
    refine ⟨Lm, since, seen, stepped, h0, h1, by rw [hs]; exact h2, fun l v hl => ?_⟩
    obtain ⟨⟨l', hl'⟩, e⟩ := hi m ver left cur Lm l v rfl h1 hl
    obtain ⟨g1, g2⟩ := h3 l' v hl'
    refine ⟨g1, fun hv es clock he => ?_⟩
    rw [e] at he
    exact g2 hv es clock he
  | loop st pend fn n r ps a b d => simp only [BR] at hb ⊢; rw [hs]; exact hb
  | defd t => simp only [BR] at hb ⊢; rw [hs]; exact hb

/-! ### The heap -/
/-- The model's heap holds the abstract one; what `E` names lies apart, and as it lay. -/
structure HS (ρ : Ren) (h : H) (nx : Nat) (hp : Array Obj) (E : Nat → Option Obj) : Prop where
  dom : ∀ i L, ρ i = some L → i < nx
  nx_le : nx ≤ 3583
  glob : ∀ g L, g < 8 → ρ g = some L → L.blk = g ∧ L.off = 0
  nx_ge : 8 ≤ nx
  live : ∀ i L, ρ i = some L → h.get i ≠ .dead → BR ρ h (h.get i) L hp ∧ L.blk < hp.size
  inj : ∀ i j Li Lj, h.get i ≠ .dead → h.get j ≠ .dead → i ≠ j → ρ i = some Li → ρ j = some Lj → Li.blk ≠ Lj.blk
  ext : ∀ b o, E b = some o → hp[b]? = some o ∧ ∀ i L, h.get i ≠ .dead → ρ i = some L → L.blk ≠ b
  glive : ∀ g, g < 8 → h.get g ≠ .dead → ∃ L, ρ g = some L

theorem HS.liveL {ρ : Ren} {h : H} {nx : Nat} {hp : Array Obj} {E : Nat → Option Obj} (s : HS ρ h nx hp E) {i : Nat} (hi : h.get i ≠ .dead) {L : Loc} (hL : ρ i = some L) :
    ∃ K, ρ i = some K ∧ BR ρ h (h.get i) K hp ∧ K.blk < hp.size := ⟨L, hL, s.live i L hL hi⟩

theorem HS.fresh {ρ : Ren} {h : H} {nx : Nat} {hp : Array Obj} {E : Nat → Option Obj} (s : HS ρ h nx hp E) : ρ nx = none := by
  cases hn : ρ nx with
  | none => rfl
  | some L => exact absurd (s.dom nx L hn) (Nat.lt_irrefl _)

theorem HS.lt {ρ : Ren} {h : H} {nx : Nat} {hp : Array Obj} {E : Nat → Option Obj} (s : HS ρ h nx hp E) {i : Nat} {L : Loc} (hi : ρ i = some L) : i < 3584 := by
  have := s.dom i L hi; have := s.nx_le; omega

def Ren.put (ρ : Ren) (i : Nat) (L : Loc) : Ren := fun j => if j = i then some L else ρ j
theorem Ren.put_same (ρ : Ren) (i : Nat) (L : Loc) : ρ.put i L i = some L := if_pos rfl
theorem Ren.put_ne (ρ : Ren) {i j : Nat} (L : Loc) (h : j ≠ i) : ρ.put i L j = ρ j := if_neg h
theorem Ren.le_put {ρ : Ren} {i : Nat} (L : Loc) (h : ρ i = none) : ρ.le (ρ.put i L) := fun j K hj => by
  by_cases e : j = i
  · subst e; rw [h] at hj; cases hj
  · rw [Ren.put_ne _ _ e]; exact hj

/-- What is known of names stays, and no name below `nx` is laid anew. -/
def Ren.ext (nx : Nat) (ρ ρ' : Ren) : Prop := ρ.le ρ' ∧ ∀ i, i < nx → ρ' i = ρ i
theorem Ren.ext_refl (nx : Nat) (ρ : Ren) : ρ.ext nx ρ := ⟨ρ.le_refl, fun _ _ => rfl⟩
theorem Ren.ext_put {ρ : Ren} {nx : Nat} (L : Loc) (h : ρ nx = none) : ρ.ext nx (ρ.put nx L) := ⟨Ren.le_put L h, fun i hi => Ren.put_ne _ _ (by omega)⟩
theorem Ren.ext_trans {a b c : Ren} {n m : Nat} (h : a.ext n b) (k : b.ext m c) (hn : n ≤ m) : a.ext n c := ⟨Ren.le_trans h.1 k.1, fun i hi => (k.2 i (by omega)).trans (h.2 i hi)⟩

/-- A new block. -/
theorem HS.new {ρ : Ren} {h : H} {nx : Nat} {hp : Array Obj} {E : Nat → Option Obj} (s : HS ρ h nx hp E) (hn : nx < 3583) {b : Blk} {o : Obj} {L : Loc}
    (hL : L.blk = hp.size) (hb : b ≠ .dead → BR (ρ.put nx L) (h.set nx b) b L (hp.push o)) : HS (ρ.put nx L) (h.set nx b) (nx + 1) (hp.push o) E := by
  have hf := s.fresh
  have hold : ∀ j, j < hp.size → (hp.push o)[j]? = hp[j]? := fun j hj => by simp [Array.getElem?_push, Nat.ne_of_lt hj]
  refine ⟨?_, by omega, ?_, by have := s.nx_ge; omega, ?_, ?_, ?_, ?_⟩
  · intro i K hi
    by_cases e : i = nx
    · omega
    · rw [Ren.put_ne _ _ e] at hi; have := s.dom i K hi; omega
  · intro g K hg hi
    rw [Ren.put_ne _ _ (by have := s.nx_ge; omega)] at hi; exact s.glob g K hg hi
  · intro i K hK hi
    by_cases e : i = nx
    · subst e
      rw [Ren.put_same] at hK; cases hK
      rw [H.get_set_same] at hi ⊢
      exact ⟨hb hi, by rw [hL]; simp⟩
    · rw [H.get_set_ne _ _ (by omega) e] at hi ⊢
      rw [Ren.put_ne _ _ e] at hK
      obtain ⟨hB, hlt⟩ := s.live i K hK hi
      refine ⟨?_, by simp; omega⟩
      refine (BR.mono (Ren.le_put L hf) hB).other (hold _ hlt) ?_
      intro m ver left cur Lm l v hbe hm hg
      by_cases em : m = nx
      · subst em
        exfalso
        rw [hbe] at hB
        obtain ⟨Lm', _, _, _, _, h1, _⟩ := hB
        rw [hf] at h1; cases h1
      · rw [H.get_set_ne _ _ (by omega) em] at hg
        rw [Ren.put_ne _ _ em] at hm
        obtain ⟨_, hlt'⟩ := s.live m Lm hm (by rw [hg]; simp)
        exact ⟨⟨l, hg⟩, hold _ hlt'⟩
  · intro i j Li Lj hi hj hne hLi hLj
    by_cases ei : i = nx
    · subst ei
      rw [Ren.put_same] at hLi; cases hLi
      rw [H.get_set_ne _ _ (by omega) (Ne.symm hne)] at hj
      rw [Ren.put_ne _ _ (Ne.symm hne)] at hLj
      obtain ⟨_, hlt⟩ := s.live j Lj hLj hj
      omega
    · rw [H.get_set_ne _ _ (by omega) ei] at hi
      rw [Ren.put_ne _ _ ei] at hLi
      obtain ⟨_, hlt⟩ := s.live i Li hLi hi
      by_cases ej : j = nx
      · subst ej
        rw [Ren.put_same] at hLj; cases hLj
        omega
      · rw [H.get_set_ne _ _ (by omega) ej] at hj
        rw [Ren.put_ne _ _ ej] at hLj
        exact s.inj i j Li Lj hi hj hne hLi hLj
  · intro b' o' hb'
    obtain ⟨h1, h2⟩ := s.ext b' o' hb'
    have hlt : b' < hp.size := (Array.getElem?_eq_some_iff.1 h1).1
    refine ⟨by rw [hold _ hlt]; exact h1, fun i K hi hK => ?_⟩
    by_cases e : i = nx
    · subst e; rw [Ren.put_same] at hK; cases hK; omega
    · rw [H.get_set_ne _ _ (by omega) e] at hi; rw [Ren.put_ne _ _ e] at hK; exact h2 i K hi hK
  · intro g hg hd
    have := s.nx_ge
    rw [H.get_set_ne _ _ (by omega) (by omega)] at hd
    rw [Ren.put_ne _ _ (by omega)]
    exact s.glive g hg hd

/-- A live block is turned. -/
theorem HS.turn {ρ : Ren} {h : H} {nx : Nat} {hp hp' : Array Obj} {E : Nat → Option Obj} (s : HS ρ h nx hp E) {i : Nat} {L : Loc} {b : Blk}
    (hi : h.get i ≠ .dead) (hL : ρ i = some L) (hsz : hp'.size = hp.size) (hoth : ∀ j, j ≠ L.blk → hp'[j]? = hp[j]?)
    (hb : b ≠ .dead → BR ρ (h.set i b) b L hp')
    (hit : ∀ j m ver left cur Lj l v, j ≠ i → h.get j = .iter m ver left cur → m = i → b = .map l v → ρ j = some Lj → BR ρ h (h.get j) Lj hp → BR ρ (h.set i b) (h.get j) Lj hp') :
    HS ρ (h.set i b) nx hp' E := by
  have hi' := s.lt hL
  refine ⟨s.dom, s.nx_le, s.glob, s.nx_ge, ?_, ?_, ?_, ?_⟩
  · intro j K hK hj
    by_cases e : j = i
    · subst e
      rw [hL] at hK; cases hK
      rw [H.get_set_same] at hj ⊢
      obtain ⟨_, hlt⟩ := s.live j L hL hi
      exact ⟨hb hj, by omega⟩
    · rw [H.get_set_ne _ _ hi' e] at hj ⊢
      obtain ⟨hB, hlt⟩ := s.live j K hK hj
      refine ⟨?_, by omega⟩
      have hne := s.inj j i K L hj hi e hK hL
      by_cases hx : ∃ m ver left cur l v, h.get j = .iter m ver left cur ∧ m = i ∧ b = .map l v
      · obtain ⟨m, ver, left, cur, l, v, h1, h2, h3⟩ := hx
        exact hit j m ver left cur K l v e h1 h2 h3 hK hB
      · refine hB.other (hoth _ hne) fun m ver left cur Lm l v hbe hm hg => ?_
        by_cases em : m = i
        · subst em
          rw [H.get_set_same] at hg
          exact absurd ⟨m, ver, left, cur, l, v, hbe, rfl, hg⟩ hx
        · rw [H.get_set_ne _ _ hi' em] at hg
          exact ⟨⟨l, hg⟩, hoth _ (s.inj m i Lm L (by rw [hg]; simp) hi em hm hL)⟩
  · intro j k Lj Lk hj hk hne hLj hLk
    have hj' : h.get j ≠ .dead := by
      by_cases e : j = i
      · subst e; exact hi
      · rw [H.get_set_ne _ _ hi' e] at hj; exact hj
    have hk' : h.get k ≠ .dead := by
      by_cases e : k = i
      · subst e; exact hi
      · rw [H.get_set_ne _ _ hi' e] at hk; exact hk
    exact s.inj j k Lj Lk hj' hk' hne hLj hLk
  · intro b' o' hb'
    obtain ⟨h1, h2⟩ := s.ext b' o' hb'
    refine ⟨by rw [hoth _ (fun e => h2 i L hi hL e.symm)]; exact h1, fun j K hj hK => ?_⟩
    by_cases e : j = i
    · subst e; exact h2 j K hi hK
    · rw [H.get_set_ne _ _ hi' e] at hj; exact h2 j K hj hK
  · intro g hg hd
    by_cases e : g = i
    · subst e; exact ⟨L, hL⟩
    · rw [H.get_set_ne _ _ hi' e] at hd; exact s.glive g hg hd

/-- A block is let go. -/
theorem HS.kill {ρ : Ren} {h : H} {nx : Nat} {hp : Array Obj} {E : Nat → Option Obj} (s : HS ρ h nx hp E) {i : Nat} {L : Loc} (hL : ρ i = some L) :
    HS ρ (h.set i .dead) nx hp E := by
  by_cases hd : h.get i = .dead
  · have hi' := s.lt hL
    have hg : ∀ j, (h.set i .dead).get j = h.get j := fun j => by
      by_cases e : j = i
      · subst e; rw [H.get_set_same, hd]
      · rw [H.get_set_ne _ _ hi' e]
    refine ⟨s.dom, s.nx_le, s.glob, s.nx_ge, fun j K hK hj => ?_, fun j k Lj Lk hj hk => ?_, fun b o hb => ?_, fun g hl hd => s.glive g hl (by rw [← hg]; exact hd)⟩
    · rw [hg] at hj ⊢
      obtain ⟨hB, hlt⟩ := s.live j K hK hj
      exact ⟨hB.other rfl fun m ver left cur Lm l v _ _ h' => ⟨⟨l, by rw [← hg]; exact h'⟩, rfl⟩, hlt⟩
    · rw [hg] at hj hk; exact s.inj j k Lj Lk hj hk
    · obtain ⟨h1, h2⟩ := s.ext b o hb
      exact ⟨h1, fun j K hj hK => h2 j K (by rw [← hg]; exact hj) hK⟩
  · exact s.turn hd hL rfl (fun _ _ => rfl) (fun h => absurd rfl h) (fun j m ver left cur Lj l v _ _ _ hb => by cases hb)

end Go.Proofs.YtfcoffpmcmhieaaGreatDoor.AI
