import Derived.Control
/- The evaluator: a closed call is run by the kernel. Each step hands its result to what follows ('K'); dispatch is by recursors with closed branches. -/
namespace Go.Ev
open Go
set_option linter.unusedVariables false
set_option linter.unusedSimpArgs false
set_option linter.deprecated false

/-! Tries. -/
inductive Pth where
  | e
  | o (p : Pth)
  | i (p : Pth)
noncomputable def pathF (f : Nat) : Nat → Pth :=
  Nat.rec (motive := fun _ => Nat → Pth) (fun _ => .e)
    (fun _ ih n => bif Nat.beq n 0 then .e else bif Nat.beq (Nat.mod n 2) 1 then .o (ih (Nat.div n 2)) else .i (ih (Nat.sub (Nat.div n 2) 1))) f
noncomputable def path (n : Nat) : Pth := pathF (Nat.succ n) n

inductive T (α : Type) where
  | leaf
  | node (l : T α) (v : α) (r : T α)
noncomputable def T.get {α : Type} (d : α) (p : Pth) : T α → α :=
  Pth.rec (motive := fun _ => T α → α)
    (fun t => T.rec (motive := fun _ => α) d (fun _ v _ _ _ => v) t)
    (fun _ ih t => T.rec (motive := fun _ => α) d (fun l _ _ _ _ => ih l) t)
    (fun _ ih t => T.rec (motive := fun _ => α) d (fun _ _ r _ _ => ih r) t) p
noncomputable def T.setK {α : Type} (d a : α) (p : Pth) : T α → (T α → Bool) → Bool :=
  Pth.rec (motive := fun _ => T α → (T α → Bool) → Bool)
    (fun t k => T.rec (motive := fun _ => Bool) (k (.node .leaf a .leaf)) (fun l _ r _ _ => k (.node l a r)) t)
    (fun _ ih t k => T.rec (motive := fun _ => Bool) (ih .leaf fun l => k (.node l d .leaf)) (fun l v r _ _ => ih l fun l => k (.node l v r)) t)
    (fun _ ih t k => T.rec (motive := fun _ => Bool) (ih .leaf fun r => k (.node .leaf d r)) (fun l v r _ _ => ih r fun r => k (.node l v r)) t) p

/-- A block's kind: a table that is only read; one as long as it is told; one with room behind. -/
inductive Kd where
  | tab
  | exact
  | roomy
inductive Blk where
  | dead
  | cells (c : List Value) (e : TypeId) (q : Kd)
  | map (es : List (Value × Value))

structure St where
  heap : T Blk
  next : Nat

structure Fr where
  n : Nat
  tmps : T Value
  defers : List (FuncId × List Value)

abbrev K := Value → Fr → St → Bool

/-! Looking into values. -/
noncomputable def boolK (v : Value) : (Bool → Bool) → Bool :=
  @Value.rec (fun _ => (Bool → Bool) → Bool) (fun _ => PUnit) (fun _ => PUnit)
    (fun b k => k b) (fun _ _ _ => false) (fun _ _ _ => false) (fun _ _ _ _ => false) (fun _ _ => false) (fun _ _ => false) (fun _ _ _ _ => false) (fun _ _ => false) (fun _ _ => false)
    (fun _ _ _ _ _ _ => false) (fun _ => false) (fun _ _ _ _ => false) (fun _ => false) (fun _ _ _ => false) (fun _ _ _ => false) (fun _ _ => ⟨⟩) ⟨⟩ (fun _ _ _ _ => ⟨⟩) v
noncomputable def intK (v : Value) : (IntKind → Int → Bool) → Bool :=
  @Value.rec (fun _ => (IntKind → Int → Bool) → Bool) (fun _ => PUnit) (fun _ => PUnit)
    (fun _ _ => false) (fun t n k => k t n) (fun _ _ _ => false) (fun _ _ _ _ => false) (fun _ _ => false) (fun _ _ => false) (fun _ _ _ _ => false) (fun _ _ => false) (fun _ _ => false)
    (fun _ _ _ _ _ _ => false) (fun _ => false) (fun _ _ _ _ => false) (fun _ => false) (fun _ _ _ => false) (fun _ _ _ => false) (fun _ _ => ⟨⟩) ⟨⟩ (fun _ _ _ _ => ⟨⟩) v
noncomputable def strK (v : Value) : (List UInt8 → Bool) → Bool :=
  @Value.rec (fun _ => (List UInt8 → Bool) → Bool) (fun _ => PUnit) (fun _ => PUnit)
    (fun _ _ => false) (fun _ _ _ => false) (fun _ _ _ => false) (fun _ _ _ _ => false) (fun s k => k s.data.toList) (fun _ _ => false) (fun _ _ _ _ => false) (fun _ _ => false) (fun _ _ => false)
    (fun _ _ _ _ _ _ => false) (fun _ => false) (fun _ _ _ _ => false) (fun _ => false) (fun _ _ _ => false) (fun _ _ _ => false) (fun _ _ => ⟨⟩) ⟨⟩ (fun _ _ _ _ => ⟨⟩) v
noncomputable def ptrK (v : Value) : (Option Addr → Bool) → Bool :=
  @Value.rec (fun _ => (Option Addr → Bool) → Bool) (fun _ => PUnit) (fun _ => PUnit)
    (fun _ _ => false) (fun _ _ _ => false) (fun _ _ _ => false) (fun _ _ _ _ => false) (fun _ _ => false) (fun a k => k a) (fun _ _ _ _ => false) (fun _ _ => false) (fun _ _ => false)
    (fun _ _ _ _ _ _ => false) (fun _ => false) (fun _ _ _ _ => false) (fun _ => false) (fun _ _ _ => false) (fun _ _ _ => false) (fun _ _ => ⟨⟩) ⟨⟩ (fun _ _ _ _ => ⟨⟩) v
noncomputable def sliceK (v : Value) : (Option Addr → Nat → Nat → Bool) → Bool :=
  @Value.rec (fun _ => (Option Addr → Nat → Nat → Bool) → Bool) (fun _ => PUnit) (fun _ => PUnit)
    (fun _ _ => false) (fun _ _ _ => false) (fun _ _ _ => false) (fun _ _ _ _ => false) (fun _ _ => false) (fun _ _ => false) (fun a n c k => k a n c) (fun _ _ => false) (fun _ _ => false)
    (fun _ _ _ _ _ _ => false) (fun _ => false) (fun _ _ _ _ => false) (fun _ => false) (fun _ _ _ => false) (fun _ _ _ => false) (fun _ _ => ⟨⟩) ⟨⟩ (fun _ _ _ _ => ⟨⟩) v
noncomputable def mapK (v : Value) : (Option Nat → Bool) → Bool :=
  @Value.rec (fun _ => (Option Nat → Bool) → Bool) (fun _ => PUnit) (fun _ => PUnit)
    (fun _ _ => false) (fun _ _ _ => false) (fun _ _ _ => false) (fun _ _ _ _ => false) (fun _ _ => false) (fun _ _ => false) (fun _ _ _ _ => false) (fun r k => k r) (fun _ _ => false)
    (fun _ _ _ _ _ _ => false) (fun _ => false) (fun _ _ _ _ => false) (fun _ => false) (fun _ _ _ => false) (fun _ _ _ => false) (fun _ _ => ⟨⟩) ⟨⟩ (fun _ _ _ _ => ⟨⟩) v
noncomputable def fnK (f : Fn) : (FuncId → Bool) → Bool :=
  Fn.rec (motive := fun _ => (FuncId → Bool) → Bool) (fun f k => k f) (fun _ _ => false) (fun _ _ _ => false) (fun _ _ _ _ _ => false) (fun _ _ => false) f
noncomputable def funcK (v : Value) : (FuncId → List Value → List Value → Bool) → Bool :=
  @Value.rec (fun _ => (FuncId → List Value → List Value → Bool) → Bool) (fun _ => PUnit) (fun _ => PUnit)
    (fun _ _ => false) (fun _ _ _ => false) (fun _ _ _ => false) (fun _ _ _ _ => false) (fun _ _ => false) (fun _ _ => false) (fun _ _ _ _ => false) (fun _ _ => false) (fun _ _ => false)
    (fun fn a b _ _ k => fnK fn fun f => k f a.toList b.toList) (fun _ => false) (fun _ _ _ _ => false) (fun _ => false) (fun _ _ _ => false) (fun _ _ _ => false) (fun _ _ => ⟨⟩) ⟨⟩ (fun _ _ _ _ => ⟨⟩) v
noncomputable def aggK (v : Value) : (List Value → Bool) → Bool :=
  @Value.rec (fun _ => (List Value → Bool) → Bool) (fun _ => PUnit) (fun _ => PUnit)
    (fun _ _ => false) (fun _ _ _ => false) (fun _ _ _ => false) (fun _ _ _ _ => false) (fun _ _ => false) (fun _ _ => false) (fun _ _ _ _ => false) (fun _ _ => false) (fun _ _ => false)
    (fun _ _ _ _ _ _ => false) (fun _ => false) (fun _ _ _ _ => false) (fun _ => false) (fun c _ k => k c.toList) (fun _ _ _ => false) (fun _ _ => ⟨⟩) ⟨⟩ (fun _ _ _ _ => ⟨⟩) v
noncomputable def tupK (v : Value) : (List Value → Bool) → Bool :=
  @Value.rec (fun _ => (List Value → Bool) → Bool) (fun _ => PUnit) (fun _ => PUnit)
    (fun _ _ => false) (fun _ _ _ => false) (fun _ _ _ => false) (fun _ _ _ _ => false) (fun _ _ => false) (fun _ _ => false) (fun _ _ _ _ => false) (fun _ _ => false) (fun _ _ => false)
    (fun _ _ _ _ _ _ => false) (fun _ => false) (fun _ _ _ _ => false) (fun _ => false) (fun _ _ _ => false) (fun c _ k => k c.toList) (fun _ _ => ⟨⟩) ⟨⟩ (fun _ _ _ _ => ⟨⟩) v
/-- The cells of a value. -/
noncomputable def cellsL (v : Value) : List Value :=
  @Value.rec (fun _ => Value → List Value) (fun _ => PUnit) (fun _ => PUnit)
    (fun _ v => [v]) (fun _ _ v => [v]) (fun _ _ v => [v]) (fun _ _ _ v => [v]) (fun _ v => [v]) (fun _ v => [v]) (fun _ _ _ v => [v]) (fun _ v => [v]) (fun _ v => [v])
    (fun _ _ _ _ _ v => [v]) (fun v => [v]) (fun _ _ _ v => [v]) (fun v => [v]) (fun c _ _ => c.toList) (fun _ _ v => [v]) (fun _ _ => ⟨⟩) ⟨⟩ (fun _ _ _ _ => ⟨⟩) v v
noncomputable def optK {α : Type} (o : Option α) : (α → Bool) → Bool := Option.rec (motive := fun _ => (α → Bool) → Bool) (fun _ => false) (fun a k => k a) o
noncomputable def natK (n : Int) : (Nat → Bool) → Bool := Int.rec (motive := fun _ => (Nat → Bool) → Bool) (fun n k => k n) (fun _ _ => false) n
noncomputable def addrK (a : Addr) (k : Nat → Nat → Bool) : Bool := Addr.rec (motive := fun _ => (Nat → Nat → Bool) → Bool) (fun b o s k => Option.rec (motive := fun _ => Bool) (k b o) (fun _ => false) s) a k
noncomputable def vptr (b o : Nat) : Value := .pointer (some ⟨b, o, none⟩)
noncomputable def intNatK (v : Value) (k : Nat → Bool) : Bool := intK v fun _ n => natK n k

/-! Lists. -/
noncomputable def lenL {α : Type} (l : List α) : Nat := List.rec (motive := fun _ => Nat) Nat.zero (fun _ _ ih => Nat.succ ih) l
noncomputable def dropL {α : Type} (n : Nat) : List α → List α :=
  Nat.rec (motive := fun _ => List α → List α) (fun l => l) (fun _ ih l => List.rec (motive := fun _ => List α) [] (fun _ t _ => ih t) l) n
/-- The n first ones; false where there are fewer. -/
noncomputable def takeK {α : Type} (n : Nat) : List α → (List α → Bool) → Bool :=
  Nat.rec (motive := fun _ => List α → (List α → Bool) → Bool) (fun _ k => k [])
    (fun _ ih l k => List.rec (motive := fun _ => Bool) false (fun h t _ => ih t fun r => k (h :: r)) l) n
noncomputable def appL {α : Type} (x y : List α) : List α := List.rec (motive := fun _ => List α) y (fun h _ ih => h :: ih) x
noncomputable def nthK {α : Type} (n : Nat) : List α → (α → Bool) → Bool :=
  Nat.rec (motive := fun _ => List α → (α → Bool) → Bool) (fun l k => List.rec (motive := fun _ => Bool) false (fun h _ _ => k h) l)
    (fun _ ih l k => List.rec (motive := fun _ => Bool) false (fun _ t _ => ih t k) l) n
/-- The values at the front are overwritten; false where there is no room. -/
noncomputable def overK {α : Type} (vs : List α) : List α → (List α → Bool) → Bool :=
  List.rec (motive := fun _ => List α → (List α → Bool) → Bool) (fun l k => k l)
    (fun v _ ih l k => List.rec (motive := fun _ => Bool) false (fun _ t _ => ih t fun r => k (v :: r)) l) vs
noncomputable def overAtK {α : Type} (n : Nat) (vs : List α) : List α → (List α → Bool) → Bool :=
  Nat.rec (motive := fun _ => List α → (List α → Bool) → Bool) (fun l k => overK vs l k)
    (fun _ ih l k => List.rec (motive := fun _ => Bool) false (fun h t _ => ih t fun r => k (h :: r)) l) n
noncomputable def mapL {α β : Type} (f : α → β) (l : List α) : List β := List.rec (motive := fun _ => List β) [] (fun h _ ih => f h :: ih) l
noncomputable def repL {α : Type} (n : Nat) (z : List α) : List α := Nat.rec (motive := fun _ => List α) [] (fun _ ih => appL z ih) n

noncomputable def nilL {α : Type} (l : List α) : Bool := List.rec (motive := fun _ => Bool) true (fun _ _ _ => false) l
/-! Memory. -/
noncomputable def cellOk (v : Value) : Bool :=
  @Value.rec (fun _ => Bool) (fun _ => PUnit) (fun _ => PUnit)
    (fun _ => true) (fun _ _ => true) (fun _ _ => true) (fun _ _ _ => true) (fun _ => true) (fun _ => true) (fun _ _ _ => true) (fun _ => true) (fun _ => true)
    (fun _ _ _ _ _ => true) true (fun _ _ _ => true) true (fun _ _ => false) (fun _ _ => false) (fun _ _ => ⟨⟩) ⟨⟩ (fun _ _ _ _ => ⟨⟩) v
noncomputable def allCell (l : List Value) : Bool := List.rec (motive := fun _ => Bool) true (fun v _ ih => bif cellOk v then ih else false) l
noncomputable def blkK (s : St) (b : Nat) (k : List Value → TypeId → Kd → Bool) : Bool :=
  Blk.rec (motive := fun _ => (List Value → TypeId → Kd → Bool) → Bool) (fun _ => false) (fun c e q k => k c e q) (fun _ _ => false) (s.heap.get .dead (path b)) k
noncomputable def mapBK (s : St) (b : Nat) (k : List (Value × Value) → Bool) : Bool :=
  Blk.rec (motive := fun _ => (List (Value × Value) → Bool) → Bool) (fun _ => false) (fun _ _ _ _ => false) (fun es k => k es) (s.heap.get .dead (path b)) k
noncomputable def ownK (q : Kd) (k : Unit → Bool) : Bool := Kd.rec (motive := fun _ => (Unit → Bool) → Bool) (fun _ => false) (fun k => k ()) (fun k => k ()) q k
noncomputable def exactK (q : Kd) (k : Unit → Bool) : Bool := Kd.rec (motive := fun _ => (Unit → Bool) → Bool) (fun _ => false) (fun k => k ()) (fun _ => false) q k
noncomputable def putK (s : St) (b : Nat) (x : Blk) (k : St → Bool) : Bool := s.heap.setK .dead x (path b) fun h => k ⟨h, s.next⟩
noncomputable def newK (s : St) (x : Blk) (k : Nat → St → Bool) : Bool := s.heap.setK .dead x (path s.next) fun h => k s.next ⟨h, Nat.succ s.next⟩
noncomputable def readK (s : St) (a : Addr) (n : Nat) (k : List Value → Bool) : Bool := addrK a fun b o => blkK s b fun c _ _ => takeK n (dropL o c) fun l => bif allCell l then k l else false
noncomputable def writeK (s : St) (a : Addr) (vs : List Value) (k : St → Bool) : Bool :=
  addrK a fun b o => blkK s b fun c e q => ownK q fun _ => bif allCell vs then overAtK o vs c fun c => putK s b (.cells c e q) k else false

/-- No address in it. -/
noncomputable def flat (v : Value) : Bool :=
  @Value.rec (fun _ => Bool) (fun _ => Bool) (fun _ => Bool)
    (fun _ => true) (fun _ _ => true) (fun _ _ => true) (fun _ _ _ => true) (fun _ => true) (fun a => Option.rec (motive := fun _ => Bool) true (fun _ => false) a) (fun a _ _ => Option.rec (motive := fun _ => Bool) true (fun _ => false) a)
    (fun a => Option.rec (motive := fun _ => Bool) true (fun _ => false) a) (fun a => Option.rec (motive := fun _ => Bool) true (fun _ => false) a)
    (fun _ _ _ x y => bif x then y else false) true (fun _ _ x => x) true (fun _ x => x) (fun _ x => x) (fun _ x => x) true (fun _ _ x y => bif x then y else false) v
noncomputable def allFlat (l : List Value) : Bool := List.rec (motive := fun _ => Bool) true (fun v _ ih => bif flat v then ih else false) l
/-! Types. -/
noncomputable def underK (P : Program) (t : TypeId) (k : TypeDesc → Bool) : Bool := optK (P.underlying t) k
noncomputable def infoK (P : Program) (t : TypeId) (k : TypeInfo → Bool) : Bool := optK (P.info? t) k
noncomputable def sizeK (P : Program) (t : TypeId) (k : Nat → Bool) : Bool := infoK P t fun i => k i.size
noncomputable def zeroK (P : Program) (t : TypeId) (k : Value → Bool) : Bool := infoK P t fun i => optK i.zero fun z => bif flat z then k z else false
noncomputable def isAgg (d : TypeDesc) : Bool := TypeDesc.rec (motive := fun _ => Bool) false false (fun _ => false) (fun _ => false) (fun _ => false) false false (fun _ => false) (fun _ => false)
  (fun _ _ => true) (fun _ _ => false) (fun _ _ => false) (fun _ => true) (fun _ _ _ => false) (fun _ => false) (fun _ => false) (fun _ _ => false) d
noncomputable def isStr (d : TypeDesc) : Bool := TypeDesc.rec (motive := fun _ => Bool) false false (fun _ => false) (fun _ => false) (fun _ => false) true false (fun _ => false) (fun _ => false)
  (fun _ _ => false) (fun _ _ => false) (fun _ _ => false) (fun _ => false) (fun _ _ _ => false) (fun _ => false) (fun _ => false) (fun _ _ => false) d
noncomputable def isInt (d : TypeDesc) : Bool := TypeDesc.rec (motive := fun _ => Bool) false false (fun _ => true) (fun _ => false) (fun _ => false) false false (fun _ => false) (fun _ => false)
  (fun _ _ => false) (fun _ _ => false) (fun _ _ => false) (fun _ => false) (fun _ _ _ => false) (fun _ => false) (fun _ => false) (fun _ _ => false) d
noncomputable def psK (d : TypeDesc) : (TypeId → Bool) → (TypeId → Bool) → Bool := TypeDesc.rec (motive := fun _ => (TypeId → Bool) → (TypeId → Bool) → Bool) (fun _ _ => false) (fun _ _ => false) (fun _ _ _ => false) (fun _ _ _ => false) (fun _ _ _ => false) (fun _ _ => false) (fun _ _ => false) (fun e k _ => k e) (fun e _ k => k e)
  (fun _ _ _ _ => false) (fun _ _ _ _ => false) (fun _ _ _ _ => false) (fun _ _ _ => false) (fun _ _ _ _ _ => false) (fun _ _ _ => false) (fun _ _ _ => false) (fun _ _ _ _ => false) d
noncomputable def sliceTK (d : TypeDesc) : (TypeId → Bool) → Bool := TypeDesc.rec (motive := fun _ => (TypeId → Bool) → Bool) (fun _ => false) (fun _ => false) (fun _ _ => false) (fun _ _ => false) (fun _ _ => false) (fun _ => false) (fun _ => false) (fun _ _ => false) (fun e k => k e)
  (fun _ _ _ => false) (fun _ _ _ => false) (fun _ _ _ => false) (fun _ _ => false) (fun _ _ _ _ => false) (fun _ _ => false) (fun _ _ => false) (fun _ _ _ => false) d
noncomputable def structTK (d : TypeDesc) : (List Field → Bool) → Bool := TypeDesc.rec (motive := fun _ => (List Field → Bool) → Bool) (fun _ => false) (fun _ => false) (fun _ _ => false) (fun _ _ => false) (fun _ _ => false) (fun _ => false) (fun _ => false) (fun _ _ => false) (fun _ _ => false)
  (fun _ _ _ => false) (fun _ _ _ => false) (fun _ _ _ => false) (fun f k => k f.toList) (fun _ _ _ _ => false) (fun _ _ => false) (fun _ _ => false) (fun _ _ _ => false) d
noncomputable def mapTK (d : TypeDesc) : (TypeId → TypeId → Bool) → Bool := TypeDesc.rec (motive := fun _ => (TypeId → TypeId → Bool) → Bool) (fun _ => false) (fun _ => false) (fun _ _ => false) (fun _ _ => false) (fun _ _ => false) (fun _ => false) (fun _ => false) (fun _ _ => false) (fun _ _ => false)
  (fun _ _ _ => false) (fun a b k => k a b) (fun _ _ _ => false) (fun _ _ => false) (fun _ _ _ _ => false) (fun _ _ => false) (fun _ _ => false) (fun _ _ _ => false) d

/-! Operands. -/
noncomputable def ex (a : Fr) (x : Operand) : Value :=
  Operand.rec (motive := fun _ => Fr → Value) (fun t a => a.tmps.get (.tuple #[]) (path t)) (fun v _ => v) (fun g _ => vptr g 0) (fun f _ => .func (.func f) #[] #[]) x a
noncomputable def exs (a : Fr) (l : List Operand) : List Value := mapL (ex a) l
noncomputable def putT (a : Fr) (d : Option Nat) (v : Value) (k : Fr → Bool) : Bool :=
  Option.rec (motive := fun _ => Fr → Value → (Fr → Bool) → Bool) (fun a _ k => k a) (fun d a v k => bif Nat.blt d a.n then a.tmps.setK (.tuple #[]) v (path d) fun t => k ⟨a.n, t, a.defers⟩ else false) d a v k

/-- What the model itself answers, where it asks for nothing. -/
noncomputable def pureK {α : Type} (P : Program) (m : Sem α) : (α → Bool) → Bool :=
  Sem.rec (motive := fun _ => (α → Bool) → Bool) (fun a k => k a) (fun _ _ _ _ _ => false) (fun _ _ _ _ _ _ => false) (fun _ _ _ _ => false) (fun _ _ _ _ => false) (fun _ _ _ _ _ => false) (fun _ _ _ _ => false) (fun _ _ _ _ => false)
    (fun _ _ _ _ _ => false) (fun _ _ _ _ => false) (fun _ _ _ _ => false) (fun _ ih k => ih P k) (fun _ _ ih k => ih k) (fun _ _ => false) m
noncomputable def nextK (n : Next) (k : Value → Bool) : Bool := match n with | .value v => k v | .skip => k (.tuple #[]) | _ => false
noncomputable def plainK (P : Program) (a : Fr) (s : St) (o : Oper) (k : K) : Bool :=
  bif allFlat (exs a o.op.operands.toList) then pureK P (execOp (ex a) o) fun n => nextK n fun v => bif flat v then k v a s else false else false

noncomputable def eqKind (a b : IntKind) : Bool := decide (a = b)
/-! Numbers. -/
noncomputable def inRange (k : IntKind) : Int → Bool :=
  IntKind.rec (motive := fun _ => Int → Bool)
    (fun n => Int.rec (motive := fun _ => Bool) (fun n => Nat.blt n 128) (fun n => Nat.blt n 128) n)
    (fun n => Int.rec (motive := fun _ => Bool) (fun n => Nat.blt n 32768) (fun n => Nat.blt n 32768) n)
    (fun n => Int.rec (motive := fun _ => Bool) (fun n => Nat.blt n 2147483648) (fun n => Nat.blt n 2147483648) n)
    (fun n => Int.rec (motive := fun _ => Bool) (fun n => Nat.blt n 9223372036854775808) (fun n => Nat.blt n 9223372036854775808) n)
    (fun n => Int.rec (motive := fun _ => Bool) (fun n => Nat.blt n 256) (fun _ => false) n)
    (fun n => Int.rec (motive := fun _ => Bool) (fun n => Nat.blt n 65536) (fun _ => false) n)
    (fun n => Int.rec (motive := fun _ => Bool) (fun n => Nat.blt n 4294967296) (fun _ => false) n)
    (fun n => Int.rec (motive := fun _ => Bool) (fun n => Nat.blt n 18446744073709551616) (fun _ => false) n) k
noncomputable def wrapK (t : IntKind) (n : Int) (k : Value → Bool) : Bool := bif inRange t n then k (.int t n) else k (.int t (t.wrap n))
noncomputable def ltI (a b : Int) : Bool :=
  Int.rec (motive := fun _ => Int → Bool) (fun a b => Int.rec (motive := fun _ => Bool) (fun b => Nat.blt a b) (fun _ => false) b)
    (fun a b => Int.rec (motive := fun _ => Bool) (fun _ => true) (fun b => Nat.blt b a) b) a b
noncomputable def eqI (a b : Int) : Bool :=
  Int.rec (motive := fun _ => Int → Bool) (fun a b => Int.rec (motive := fun _ => Bool) (fun b => Nat.beq a b) (fun _ => false) b)
    (fun a b => Int.rec (motive := fun _ => Bool) (fun _ => false) (fun b => Nat.beq a b) b) a b
noncomputable def notB (b : Bool) : Bool := Bool.rec true false b

/-- Two numbers of one kind. -/
noncomputable def intOp (op : BinOp) : IntKind → Int → Int → (Unit → Bool) → (Value → Bool) → Bool :=
  BinOp.rec (motive := fun _ => IntKind → Int → Int → (Unit → Bool) → (Value → Bool) → Bool)
    (fun t x y _ k => wrapK t (Int.add x y) k)
    (fun t x y _ k => wrapK t (Int.sub x y) k)
    (fun t x y _ k => wrapK t (Int.mul x y) k)
    (fun t x y _ k => bif eqI y (.ofNat 0) then false else wrapK t (Int.tdiv x y) k)
    (fun t x y _ k => bif eqI y (.ofNat 0) then false else k (.int t (Int.tmod x y)))
    (fun _ _ _ z _ => z ()) (fun _ _ _ z _ => z ()) (fun _ _ _ z _ => z ()) (fun _ _ _ z _ => z ()) (fun _ _ _ z _ => z ()) (fun _ _ _ z _ => z ())
    (fun _ x y _ k => k (.bool (eqI x y)))
    (fun _ x y _ k => k (.bool (notB (eqI x y))))
    (fun _ x y _ k => k (.bool (ltI x y)))
    (fun _ x y _ k => k (.bool (notB (ltI y x))))
    (fun _ x y _ k => k (.bool (ltI y x)))
    (fun _ x y _ k => k (.bool (notB (ltI x y)))) op
/-- else: where the value is no number -/
noncomputable def intE (v : Value) : (IntKind → Int → Bool) → (Unit → Bool) → Bool :=
  @Value.rec (fun _ => (IntKind → Int → Bool) → (Unit → Bool) → Bool) (fun _ => PUnit) (fun _ => PUnit)
    (fun _ _ z => z ()) (fun t n k _ => k t n) (fun _ _ _ z => z ()) (fun _ _ _ _ z => z ()) (fun _ _ z => z ()) (fun _ _ z => z ()) (fun _ _ _ _ z => z ()) (fun _ _ z => z ()) (fun _ _ z => z ())
    (fun _ _ _ _ _ _ z => z ()) (fun _ z => z ()) (fun _ _ _ _ z => z ()) (fun _ z => z ()) (fun _ _ _ z => z ()) (fun _ _ _ z => z ()) (fun _ _ => ⟨⟩) ⟨⟩ (fun _ _ _ _ => ⟨⟩) v
/-- '==' or '!=' ('no')? -/
noncomputable def eqOpK (op : BinOp) (k : Bool → Bool) : Bool :=
  BinOp.rec (motive := fun _ => (Bool → Bool) → Bool) (fun _ => false) (fun _ => false) (fun _ => false) (fun _ => false) (fun _ => false) (fun _ => false) (fun _ => false) (fun _ => false) (fun _ => false) (fun _ => false) (fun _ => false)
    (fun k => k false) (fun k => k true) (fun _ => false) (fun _ => false) (fun _ => false) (fun _ => false) op k
noncomputable def xorB (n b : Bool) : Bool := bif n then notB b else b
noncomputable def someB {α : Type} (o : Option α) : Bool := Option.rec (motive := fun _ => Bool) false (fun _ => true) o
/-- Two pointers: one of them nil, or both into one block. -/
noncomputable def samePtrK (P : Program) (e : TypeId) (p q : Option Addr) (k : Bool → Bool) : Bool :=
  Option.rec (motive := fun _ => Bool) (k (notB (someB q))) (fun p => Option.rec (motive := fun _ => Bool) (k false) (fun q => sizeK P e fun z => bif Nat.beq z 0 then false else
    addrK p fun b o => addrK q fun b' o' => bif Nat.beq b b' then k (Nat.beq o o') else false) q) p
noncomputable def sameSliceK (p q : Option Addr) (k : Bool → Bool) : Bool := Option.rec (motive := fun _ => Bool) (k (notB (someB q))) (fun _ => Option.rec (motive := fun _ => Bool) (k false) (fun _ => false) q) p
noncomputable def evEq (P : Program) (op : BinOp) (t : TypeId) (v w : Value) (a : Fr) (s : St) (k : K) : Bool :=
  eqOpK op fun no => underK P t fun d => psK d (fun e => ptrK v fun p => ptrK w fun q => samePtrK P e p q fun b => k (.bool (xorB no b)) a s)
    (fun _ => sliceK v fun p _ _ => sliceK w fun q _ _ => sameSliceK p q fun b => k (.bool (xorB no b)) a s)
noncomputable def evBinE (P : Program) (op : BinOp) (t : TypeId) (v w : Value) (o : Oper) (a : Fr) (s : St) (k : K) : Bool :=
  bif allFlat [v, w] then plainK P a s o k else evEq P op t v w a s k
noncomputable def evBin (P : Program) (op : BinOp) (t : TypeId) (x y : Operand) (o : Oper) (a : Fr) (s : St) (k : K) : Bool :=
  intE (ex a x) (fun u m => intE (ex a y) (fun u' n => bif eqKind u u' then intOp op u m n (fun _ => plainK P a s o k) (fun v => k v a s) else plainK P a s o k)
    (fun _ => evBinE P op t (ex a x) (ex a y) o a s k)) (fun _ => evBinE P op t (ex a x) (ex a y) o a s k)

/-! Aggregates. -/
noncomputable def partsL (a : Fr) (l : List (Nat × Operand)) : List (Nat × Value) := mapL (fun p => (p.1, ex a p.2)) l
/-- The parts laid at their places (offset and size told by 'place'). -/
noncomputable def fillK (place : Nat → (Nat → Nat → Bool) → Bool) (ps : List (Nat × Value)) : List Value → (List Value → Bool) → Bool :=
  List.rec (motive := fun _ => List Value → (List Value → Bool) → Bool) (fun c k => k c)
    (fun p _ ih c k => place p.1 fun off size => bif Nat.beq (lenL (cellsL p.2)) size then overAtK off (cellsL p.2) c fun c => ih c k else false) ps
/-- The fields' places and sizes. -/
noncomputable def placesL (P : Program) (fs : List Field) : Option (List (Nat × Nat)) := fs.mapM fun f => (P.info? f.type).map fun i => (f.offset, i.size)
noncomputable def isArr (d : TypeDesc) : (List Field → Bool) → (TypeId → Bool) → Bool := TypeDesc.rec (motive := fun _ => (List Field → Bool) → (TypeId → Bool) → Bool) (fun _ _ => false) (fun _ _ => false) (fun _ _ _ => false) (fun _ _ _ => false) (fun _ _ _ => false) (fun _ _ => false) (fun _ _ => false) (fun _ _ _ => false) (fun _ _ _ => false)
  (fun _ e _ k => k e) (fun _ _ _ _ => false) (fun _ _ _ _ => false) (fun f k _ => k f.toList) (fun _ _ _ _ _ => false) (fun _ _ _ => false) (fun _ _ _ => false) (fun _ _ _ _ => false) d
noncomputable def evBuild (P : Program) (t : TypeId) (parts : Array (Nat × Operand)) (a : Fr) (s : St) (k : K) : Bool :=
  zeroK P t fun z => underK P t fun d => isArr d
    (fun fs => optK (placesL P fs) fun pl => fillK (fun i k => nthK i pl fun p => k p.1 p.2) (partsL a parts.toList) (cellsL z) fun c => k (.agg ⟨c⟩) a s)
    (fun e => sizeK P e fun n => fillK (fun i k => k (Nat.mul i n) n) (partsL a parts.toList) (cellsL z) fun c => k (.agg ⟨c⟩) a s)
noncomputable def rowK (s : St) (c : List Value) (e : TypeId) (len : Nat) (a : Fr) (k : K) : Bool := newK s (.cells c e .exact) fun b s => k (.slice (some ⟨b, 0, none⟩) len len) a s
noncomputable def evBuildSlice (P : Program) (t : TypeId) (len : Nat) (parts : Array (Nat × Operand)) (a : Fr) (s : St) (k : K) : Bool :=
  underK P t fun d => sliceTK d fun e => sizeK P e fun n => zeroK P e fun z => bif Nat.beq (lenL (cellsL z)) n then bif Nat.ble (Nat.mul len n) 16777216 then
    fillK (fun i k => k (Nat.mul i n) n) (partsL a parts.toList) (repL len (cellsL z)) fun c => rowK s c e len a k else false else false
noncomputable def evLoad (P : Program) (t : TypeId) (x : Operand) (a : Fr) (s : St) (k : K) : Bool :=
  ptrK (ex a x) fun p => optK p fun p => underK P t fun d =>
    bif isAgg d then sizeK P t fun n => readK s p n fun c => k (.agg ⟨c⟩) a s
    else readK s p 1 fun c => List.rec (motive := fun _ => Bool) false (fun v _ _ => k v a s) c
noncomputable def evStore (P : Program) (t : TypeId) (x y : Operand) (a : Fr) (s : St) (k : K) : Bool :=
  ptrK (ex a x) fun p => optK p fun p => sizeK P t fun n => bif Nat.beq (lenL (cellsL (ex a y))) n then writeK s p (cellsL (ex a y)) fun s => k (.tuple #[]) a s else false
noncomputable def evAlloc (P : Program) (t : TypeId) (a : Fr) (s : St) (k : K) : Bool := zeroK P t fun z => newK s (.cells (cellsL z) t .exact) fun b s => k (vptr b 0) a s
noncomputable def evBox (t : TypeId) (x : Operand) (a : Fr) (s : St) (k : K) : Bool := newK s (.cells (cellsL (ex a x)) t .exact) fun b s => k (vptr b 0) a s
/-- A pointer or a function that is there. -/
noncomputable def thereK (v : Value) : (Value → Bool) → Bool :=
  @Value.rec (fun _ => (Value → Bool) → Bool) (fun _ => PUnit) (fun _ => PUnit)
    (fun _ _ => false) (fun _ _ _ => false) (fun _ _ _ => false) (fun _ _ _ _ => false) (fun _ _ => false) (fun p k => optK p fun a => k (.pointer (some a))) (fun _ _ _ _ => false) (fun _ _ => false) (fun _ _ => false)
    (fun fn a b _ _ k => fnK fn fun f => k (.func (.func f) a b)) (fun _ => false) (fun _ _ _ _ => false) (fun _ => false) (fun _ _ _ => false) (fun _ _ _ => false) (fun _ _ => ⟨⟩) ⟨⟩ (fun _ _ _ _ => ⟨⟩) v
noncomputable def evNil (x : Operand) (a : Fr) (s : St) (k : K) : Bool := thereK (ex a x) fun v => k v a s
noncomputable def evFieldAddr (P : Program) (t : TypeId) (x : Operand) (f : Nat) (a : Fr) (s : St) (k : K) : Bool :=
  ptrK (ex a x) fun p => optK p fun p => addrK p fun b o => underK P t fun d => structTK d fun fs => nthK f fs fun fd => sizeK P fd.type fun n => bif Nat.beq n 0 then false else k (vptr b (Nat.add o fd.offset)) a s
noncomputable def elemK (P : Program) (d : TypeDesc) (v : Value) : (Nat → Nat → Nat → TypeId → Bool) → Bool :=
  TypeDesc.rec (motive := fun _ => Value → (Nat → Nat → Nat → TypeId → Bool) → Bool) (fun _ _ => false) (fun _ _ => false) (fun _ _ _ => false) (fun _ _ _ => false) (fun _ _ _ => false) (fun _ _ => false) (fun _ _ => false) (fun _ _ _ => false)
    (fun e v k => sliceK v fun p n _ => optK p fun p => addrK p fun b o => k b o n e)
    (fun n e v k => ptrK v fun p => optK p fun p => addrK p fun b o => k b o n e)
    (fun _ _ _ _ => false) (fun _ _ _ _ => false) (fun _ _ _ => false) (fun _ _ _ _ _ => false) (fun _ _ _ => false) (fun _ _ _ => false) (fun _ _ _ _ => false) d v
noncomputable def evIndexAddr (P : Program) (t : TypeId) (x ix : Operand) (a : Fr) (s : St) (k : K) : Bool :=
  intNatK (ex a ix) fun i => underK P t fun d => elemK P d (ex a x) fun b o n e => bif Nat.blt i n then sizeK P e fun z => k (vptr b (Nat.add o (Nat.mul i z))) a s else false
noncomputable def evField (P : Program) (t : TypeId) (x : Operand) (f : Nat) (a : Fr) (s : St) (k : K) : Bool :=
  underK P t fun d => structTK d fun fs => nthK f fs fun fd => aggK (ex a x) fun c => underK P fd.type fun d =>
    bif isAgg d then sizeK P fd.type fun n => takeK n (dropL fd.offset c) fun c => k (.agg ⟨c⟩) a s else nthK fd.offset c fun v => k v a s
noncomputable def evExtract (x : Operand) (i : Nat) (a : Fr) (s : St) (k : K) : Bool := tupK (ex a x) fun c => nthK i c fun v => k v a s
noncomputable def stringE (v : Value) : (List UInt8 → Bool) → (Unit → Bool) → Bool :=
  @Value.rec (fun _ => (List UInt8 → Bool) → (Unit → Bool) → Bool) (fun _ => PUnit) (fun _ => PUnit)
    (fun _ _ z => z ()) (fun _ _ _ z => z ()) (fun _ _ _ z => z ()) (fun _ _ _ _ z => z ()) (fun b k _ => k b.data.toList) (fun _ _ z => z ()) (fun _ _ _ _ z => z ()) (fun _ _ z => z ()) (fun _ _ z => z ())
    (fun _ _ _ _ _ _ z => z ()) (fun _ z => z ()) (fun _ _ _ _ z => z ()) (fun _ z => z ()) (fun _ _ _ z => z ()) (fun _ _ _ z => z ()) (fun _ _ => ⟨⟩) ⟨⟩ (fun _ _ _ _ => ⟨⟩) v
noncomputable def evIndex (P : Program) (t : TypeId) (x ix : Operand) (o : Oper) (a : Fr) (s : St) (k : K) : Bool :=
  stringE (ex a x) (fun l => underK P t fun d => bif isStr d then intNatK (ex a ix) fun i => nthK i l fun b => k (.int .u8 (.ofNat b.toNat)) a s else false) (fun _ => plainK P a s o k)
noncomputable def optV (x : Option Operand) (d : Value) (a : Fr) : Value := Option.rec (motive := fun _ => Value → Fr → Value) (fun d _ => d) (fun x _ a => ex a x) x d a
noncomputable def noneK {α : Type} (o : Option α) (k : Unit → Bool) : Bool := Option.rec (motive := fun _ => (Unit → Bool) → Bool) (fun k => k ()) (fun _ _ => false) o k
noncomputable def sliceE (v : Value) : (Option Addr → Nat → Nat → Bool) → (List UInt8 → Bool) → (Unit → Bool) → Bool :=
  @Value.rec (fun _ => (Option Addr → Nat → Nat → Bool) → (List UInt8 → Bool) → (Unit → Bool) → Bool) (fun _ => PUnit) (fun _ => PUnit)
    (fun _ _ _ z => z ()) (fun _ _ _ _ z => z ()) (fun _ _ _ _ z => z ()) (fun _ _ _ _ _ z => z ()) (fun b _ k _ => k b.data.toList) (fun _ _ _ z => z ()) (fun p n c k _ _ => k p n c) (fun _ _ _ z => z ()) (fun _ _ _ z => z ())
    (fun _ _ _ _ _ _ _ z => z ()) (fun _ _ z => z ()) (fun _ _ _ _ _ z => z ()) (fun _ _ z => z ()) (fun _ _ _ _ z => z ()) (fun _ _ _ _ z => z ()) (fun _ _ => ⟨⟩) ⟨⟩ (fun _ _ _ _ => ⟨⟩) v
noncomputable def moved (p : Option Addr) (d : Nat) : Option Addr := Option.rec (motive := fun _ => Nat → Option Addr) (fun _ => none) (fun a d => some ⟨a.block, Nat.add a.off d, none⟩) p d
noncomputable def arrTK (d : TypeDesc) : (Nat → TypeId → Bool) → Bool := TypeDesc.rec (motive := fun _ => (Nat → TypeId → Bool) → Bool) (fun _ => false) (fun _ => false) (fun _ _ => false) (fun _ _ => false) (fun _ _ => false) (fun _ => false) (fun _ => false) (fun _ _ => false) (fun _ _ => false)
  (fun n e k => k n e) (fun _ _ _ => false) (fun _ _ _ => false) (fun _ _ => false) (fun _ _ _ _ => false) (fun _ _ => false) (fun _ _ => false) (fun _ _ _ => false) d
/-- Bounds: low, high, both within. -/
noncomputable def loHi (lo hi : Option Operand) (n m : Nat) (a : Fr) (k : Nat → Nat → Bool) : Bool :=
  intNatK (optV lo (.int .i64 (.ofNat 0)) a) fun l => intNatK (optV hi (.int .i64 (.ofNat n)) a) fun h => bif Nat.ble h m then bif Nat.ble l h then k l h else false else false
/-- A slice's slice; where nothing is left behind its end, the place need not move: not told unless from 0. -/
noncomputable def endOk (l c : Nat) : Bool := bif Nat.beq l 0 then true else Nat.blt l c
noncomputable def evSlice (P : Program) (t : TypeId) (x : Operand) (lo hi mx : Option Operand) (o : Oper) (a : Fr) (s : St) (k : K) : Bool :=
  noneK mx fun _ => underK P t fun d => sliceE (ex a x)
    (fun p n c => sliceTK d fun e => loHi lo hi n c a fun l h => bif endOk l c then sizeK P e fun z => k (.slice (moved p (Nat.mul l z)) (Nat.sub h l) (Nat.sub c l)) a s else false)
    (fun b => bif isStr d then loHi lo hi (lenL b) (lenL b) a fun l h => takeK (Nat.sub h l) (dropL l b) fun b => k (.string ⟨⟨b⟩⟩) a s else false)
    (fun _ => ptrK (ex a x) fun p => optK p fun p => addrK p fun b f => arrTK d fun n e => loHi lo hi n n a fun l h => bif endOk l n then
      blkK s b fun _ _ q => exactK q fun _ => sizeK P e fun z => k (.slice (some ⟨b, Nat.add f (Nat.mul l z), none⟩) (Nat.sub h l) (Nat.sub n l)) a s else false)
noncomputable def evMakeSlice (P : Program) (t : TypeId) (l c : Operand) (a : Fr) (s : St) (k : K) : Bool :=
  underK P t fun d => sliceTK d fun e => intNatK (ex a l) fun l => intNatK (ex a c) fun c => bif Nat.ble c 65536 then bif Nat.ble l c then
    infoK P e fun i => bif Nat.ble i.bytes 65536 then zeroK P e fun z => bif Nat.beq (lenL (cellsL z)) i.size then newK s (.cells (repL c (cellsL z)) e .exact) fun b s => k (.slice (some ⟨b, 0, none⟩) l c) a s else false else false else false else false
noncomputable def evMakeMap (r : Option Operand) (a : Fr) (s : St) (k : K) : Bool := noneK r fun _ => newK s (.map []) fun b s => k (.map (some b)) a s
noncomputable def evMakeFunc (fn : Fn) (first captured : Array Operand) (a : Fr) (s : St) (k : K) : Bool := k (.func fn ⟨exs a first.toList⟩ ⟨exs a captured.toList⟩) a s
/-- Keys that are strings. -/
noncomputable def findE (key : List UInt8) (es : List (Value × Value)) : (Value → Bool) → (Unit → Bool) → Bool :=
  List.rec (motive := fun _ => (Value → Bool) → (Unit → Bool) → Bool) (fun _ z => z ()) (fun e _ ih k z => strK e.1 fun b => bif b == key then k e.2 else ih k z) es
noncomputable def setEK (key : List UInt8) (v : Value) (es : List (Value × Value)) : (List (Value × Value) → Bool) → Bool :=
  List.rec (motive := fun _ => (List (Value × Value) → Bool) → Bool) (fun k => k [(.string ⟨⟨key⟩⟩, v)]) (fun e t ih k => strK e.1 fun b => bif b == key then k ((e.1, v) :: t) else ih fun r => k (e :: r)) es
noncomputable def okV (ok : Bool) (v : Value) (b : Bool) : Value := Bool.rec (motive := fun _ => Value) v (.tuple #[v, .bool b]) ok
noncomputable def evLookup (P : Program) (t : TypeId) (x ix : Operand) (ok : Bool) (a : Fr) (s : St) (k : K) : Bool :=
  underK P t fun d => mapTK d fun kt et => underK P kt fun kd => bif isStr kd then strK (ex a ix) fun key => mapK (ex a x) fun m =>
    Option.rec (motive := fun _ => Bool) (zeroK P et fun z => k (okV ok z false) a s)
      (fun b => mapBK s b fun es => findE key es (fun v => k (okV ok v true) a s) fun _ => zeroK P et fun z => k (okV ok z false) a s) m else false
noncomputable def evMapUpdate (P : Program) (t : TypeId) (x ix y : Operand) (a : Fr) (s : St) (k : K) : Bool :=
  underK P t fun d => mapTK d fun kt _ => underK P kt fun kd => bif isStr kd then strK (ex a ix) fun key => mapK (ex a x) fun m => optK m fun b => mapBK s b fun es =>
    setEK key (ex a y) es fun es => putK s b (.map es) fun s => k (.tuple #[]) a s else false
noncomputable def byteV (b : UInt8) : Value := .int .u8 (.ofNat b.toNat)
noncomputable def isByte (d : TypeDesc) : Bool := match d with | .int .u8 => true | _ => false
noncomputable def bytesK (c : List Value) : (List UInt8 → Bool) → Bool :=
  List.rec (motive := fun _ => (List UInt8 → Bool) → Bool) (fun k => k []) (fun v _ ih k => intK v fun t n => bif eqKind t .u8 then natK n fun n => ih fun l => k (UInt8.ofNat n :: l) else false) c
/-- A place that is there, in a block of one's own. -/
noncomputable def hereK (s : St) (p : Addr) (k : List Value → TypeId → Nat → Bool) : Bool := addrK p fun b o => blkK s b fun c e q => ownK q fun _ => k c e o
/-- Whole variables of the block's own type lie there. -/
noncomputable def whole (z off n len : Nat) : Bool := bif Nat.beq z 0 then false else bif Nat.beq (Nat.mod off z) 0 then Nat.ble (Nat.add (Nat.div off z) n) (Nat.div len z) else false
inductive CK where | toBytes (e : TypeId) | toString (e : TypeId) | same (e : TypeId) | toAny (e : TypeId) | fromAny (e : TypeId) | plain
def convKind (a b : TypeDesc) : CK :=
  match a, b with
  | .string, .slice e => .toBytes e
  | .slice e, .string => .toString e
  | .slice _, .slice e => .same e
  | .pointer e, .unsafePointer => .toAny e
  | .unsafePointer, .pointer e => .fromAny e
  | _, _ => .plain
noncomputable def evConvert (P : Program) (src dst : TypeId) (x : Operand) (o : Oper) (a : Fr) (s : St) (k : K) : Bool :=
  underK P src fun d => underK P dst fun d' =>
    CK.rec (motive := fun _ => Bool)
      (fun e => underK P e fun de => bif isByte de then sizeK P e fun z => bif Nat.beq z 1 then strK (ex a x) fun b => newK s (.cells (mapL byteV b) e .roomy) fun r s => k (.slice (some ⟨r, 0, none⟩) (lenL b) (lenL b)) a s else false else false)
      (fun e => underK P e fun de => bif isByte de then sliceK (ex a x) fun p n _ => Option.rec (motive := fun _ => Bool) (k (.string ⟨⟨[]⟩⟩) a s) (fun p => readK s p n fun c => bytesK c fun l => k (.string ⟨⟨l⟩⟩) a s) p else false)
      (fun e => underK P e fun de => bif isByte de then bif Nat.beq src dst then sliceK (ex a x) fun p n c => optK p fun p => hereK s p fun _ _ _ => k (.slice (some p) n c) a s else false else false)
      (fun e => ptrK (ex a x) fun p => optK p fun p => sizeK P e fun z => bif Nat.beq z 0 then false else hereK s p fun c _ o => bif Nat.blt o (lenL c) then k (.pointer (some p)) a s else false)
      (fun e => ptrK (ex a x) fun p => optK p fun p => sizeK P e fun z => hereK s p fun c e' o => bif Nat.beq e e' then bif whole z o 1 (lenL c) then k (.pointer (some p)) a s else false else false)
      (plainK P a s o k) (convKind d d')

/-! Calls. -/
noncomputable def newsK (z : Nat) (s : St) (v : Value) (k : Nat → List Value → Bool) : Bool :=
  sliceE v (fun p n _ => Option.rec (motive := fun _ => Bool) (bif Nat.beq n 0 then k 0 [] else false) (fun p => readK s p (Nat.mul n z) fun c => k n c) p) (fun b => bif Nat.beq z 1 then k (lenL b) (mapL byteV b) else false) (fun _ => false)
/-- The second argument is no length of zeros. -/
noncomputable def notMakeK (P : Program) (c : Call) (k : Unit → Bool) : Bool := nthK 1 c.argTypes.toList fun t => underK P t fun d => bif isInt d then false else k ()
/-- The block of an append's base is given up (the new row may be laid in it). -/
noncomputable def baseK (e : TypeId) (z len cap : Nat) (s : St) (p : Option Addr) (k : List Value → St → Bool) : Bool :=
  Option.rec (motive := fun _ => Bool) (bif Nat.beq cap 0 then k [] s else false) (fun p => addrK p fun b o => bif Nat.beq o 0 then blkK s b fun c e' q => ownK q fun _ => bif Nat.beq e e' then bif Nat.beq (Nat.mul cap z) (lenL c) then
    takeK (Nat.mul len z) c fun c => putK s b .dead fun s => k c s else false else false else false) p
noncomputable def smallK (P : Program) (e : TypeId) (need : Nat) (k : Unit → Bool) : Bool := infoK P e fun i => bif Nat.ble i.bytes 65536 then bif Nat.ble need 1048576 then k () else false else false
noncomputable def evAppend (P : Program) (c : Call) (t : TypeId) (vs : List Value) (a : Fr) (s : St) (k : K) : Bool :=
  nthK 0 vs fun v0 => nthK 1 vs fun v1 => sliceK v0 fun p len cap => underK P t fun d => sliceTK d fun e => sizeK P e fun z => notMakeK P c fun _ => newsK z s v1 fun n news =>
    bif Nat.ble len cap then bif Nat.beq n 0 then k (.slice p len cap) a s else bif allCell news then smallK P e (Nat.add len n) fun _ => zeroK P e fun zv => bif Nat.beq (lenL (cellsL zv)) z then
      baseK e z len cap s p fun old s => newK s (.cells (appL old news) e .roomy) fun b s => k (.slice (some ⟨b, 0, none⟩) (Nat.add len n) (Nat.add len n)) a s else false else false else false
noncomputable def evLen (P : Program) (t : TypeId) (vs : List Value) (a : Fr) (s : St) (k : K) : Bool :=
  nthK 0 vs fun v => underK P t fun d => sliceE v (fun _ n _ => sliceTK d fun _ => k (.int .i64 (.ofNat n)) a s) (fun b => bif isStr d then k (.int .i64 (.ofNat (lenL b))) a s else false)
    (fun _ => mapTK d fun _ _ => mapK v fun m => Option.rec (motive := fun _ => Bool) (k (.int .i64 (.ofNat 0)) a s) (fun b => mapBK s b fun es => k (.int .i64 (.ofNat (lenL es))) a s) m)
noncomputable def ptrTK (d : TypeDesc) (k : TypeId → Bool) : Bool := psK d k (fun _ => false)
noncomputable def evUnsafeString (P : Program) (t : TypeId) (vs : List Value) (a : Fr) (s : St) (k : K) : Bool :=
  nthK 0 vs fun v0 => nthK 1 vs fun v1 => bif nilL (dropL 2 vs) then ptrK v0 fun p => optK p fun p => intNatK v1 fun n => bif Nat.beq n 0 then k (.string ⟨⟨[]⟩⟩) a s else bif Nat.ble n 1048576 then
    underK P t fun d => ptrTK d fun u => sizeK P u fun z => bif Nat.beq z 1 then hereK s p fun c e o => bif Nat.beq e u then bif Nat.ble (Nat.add o n) (lenL c) then
      readK s p n fun l => bytesK l fun l => addrK p fun b _ => putK s b .dead fun s => k (.string ⟨⟨l⟩⟩) a s else false else false else false else false else false
noncomputable def evClear (P : Program) (t : TypeId) (vs : List Value) (a : Fr) (s : St) (k : K) : Bool :=
  nthK 0 vs fun v => sliceK v fun p n _ => underK P t fun d => Option.rec (motive := fun _ => Bool) (k (.tuple #[]) a s)
    (fun p => sliceTK d fun e => zeroK P e fun z => writeK s p (repL n (cellsL z)) fun s => k (.tuple #[]) a s) p
noncomputable def minN (m n : Nat) : Nat := bif Nat.ble m n then m else n
noncomputable def evCopy (P : Program) (t : TypeId) (vs : List Value) (a : Fr) (s : St) (k : K) : Bool :=
  nthK 0 vs fun v0 => nthK 1 vs fun v1 => sliceK v0 fun p n _ => sliceK v1 fun q m _ => underK P t fun d => sliceTK d fun e => sizeK P e fun z =>
    Option.rec (motive := fun _ => Bool) (k (.int .i64 (.ofNat (minN m n))) a s) (fun q => optK p fun p =>
      readK s q (Nat.mul (minN m n) z) fun c => writeK s p c fun s => k (.int .i64 (.ofNat (minN m n))) a s) q
noncomputable def evSliceData (vs : List Value) (a : Fr) (s : St) (k : K) : Bool :=
  nthK 0 vs fun v => bif nilL (dropL 1 vs) then sliceK v fun p _ c => Option.rec (motive := fun _ => Bool) (k (.pointer none) a s) (fun p => bif Nat.beq c 0 then false else k (.pointer (some p)) a s) p else false
/-- What no one has written yet. -/
def hole : Value := .tuple #[]
noncomputable def evMakeNoZero (P : Program) (fn : Func) (vs : List Value) (a : Fr) (s : St) (k : K) : Bool :=
  nthK 0 vs fun v => bif nilL (dropL 1 vs) then intK v fun u n => bif eqKind u .i64 then natK n fun n => bif Nat.ble n 1048576 then nthK 0 fn.resultTypes.toList fun t => bif nilL (dropL 1 fn.resultTypes.toList) then underK P t fun d => sliceTK d fun e => sizeK P e fun z => bif Nat.beq z 1 then
    newK s (.cells (repL n [hole]) e .roomy) fun b s => k (.slice (some ⟨b, 0, none⟩) n n) a s else false else false else false else false else false
noncomputable def type0 (c : Call) (k : TypeId → Bool) : Bool := nthK 0 c.argTypes.toList k
noncomputable def evBuiltin (b : Builtin) : Program → Oper → Call → Fr → St → K → Bool :=
  Builtin.rec (motive := fun _ => Program → Oper → Call → Fr → St → K → Bool)
    (fun P _ c a s k => type0 c fun t => evAppend P c t (exs a c.args.toList) a s k)
    (fun P o _ a s k => plainK P a s o k)
    (fun P _ c a s k => type0 c fun t => evClear P t (exs a c.args.toList) a s k)
    (fun _ _ _ _ _ _ => false) (fun _ _ _ _ _ _ => false)
    (fun P _ c a s k => type0 c fun t => evCopy P t (exs a c.args.toList) a s k)
    (fun _ _ _ _ _ _ => false) (fun _ _ _ _ _ _ => false)
    (fun P _ c a s k => type0 c fun t => evLen P t (exs a c.args.toList) a s k)
    (fun _ _ _ _ _ _ => false)
    (fun P o _ a s k => plainK P a s o k)
    (fun P o _ a s k => plainK P a s o k)
    (fun _ _ _ _ _ _ => false) (fun _ _ _ _ _ _ => false) (fun _ _ _ _ _ _ => false) (fun _ _ _ _ _ _ => false) (fun _ _ _ _ _ _ => false)
    (fun _ _ _ _ _ _ => false)
    (fun _ _ _ _ _ _ => false) (fun _ _ _ _ _ _ => false)
    (fun _ _ c a s k => evSliceData (exs a c.args.toList) a s k)
    (fun P _ c a s k => type0 c fun t => evUnsafeString P t (exs a c.args.toList) a s k)
    (fun _ _ _ _ _ _ => false) (fun _ _ _ _ _ _ => false) (fun _ _ _ _ _ _ => false) (fun _ _ _ _ _ _ => false) b

inductive Task where
  | code (c : Code)
  | call (f : FuncId) (args : List Value)
inductive Ex where
  | normal
  | exit (id : Nat)
  | ret
  | val (v : Value)
abbrev KE := Ex → Fr → St → Bool
abbrev IH := Task → Fr → St → KE → Bool

noncomputable def valK (e : Ex) : (Value → Bool) → Bool := Ex.rec (motive := fun _ => (Value → Bool) → Bool) (fun _ => false) (fun _ _ => false) (fun _ => false) (fun v k => k v) e
noncomputable def fnOf (P : Program) (g : FuncId) : Option Func := P.funcs[g]?
noncomputable def isGor (P : Program) (g : FuncId) : Bool := Option.rec (motive := fun _ => Bool) true (fun fn => fn.name == "runtime.NumGoroutine") (fnOf P g)
noncomputable def isNamed (fn : Func) (n : String) : Bool := bif fn.name == n then fn.origin == "" else false
noncomputable def evSame (vs : List Value) (a : Fr) (s : St) (k : K) : Bool := List.rec (motive := fun _ => Bool) false (fun v t _ => bif nilL t then k v a s else false) vs
noncomputable def outer (P : Program) (fn : Func) (o : Oper) (first vs cap : List Value) (a : Fr) (s : St) (k : K) : Bool :=
  bif isNamed fn "internal/bytealg.MakeNoZero" then evMakeNoZero P fn (appL first (appL vs cap)) a s k
  else bif isNamed fn "internal/abi.NoEscape" then evSame (appL first (appL vs cap)) a s k else plainK P a s o k
noncomputable def evCall (P : Program) (ih : IH) (c : Call) (o : Oper) (a : Fr) (s : St) (k : K) : Bool :=
  Callee.rec (motive := fun _ => Program → IH → Call → Oper → Fr → St → K → Bool)
    (fun f P ih c o a s k => funcK (ex a f) fun g first cap => bif isGor P g then false else optK (fnOf P g) fun fn => Option.rec (motive := fun _ => Bool)
      (outer P fn o first (exs a c.args.toList) cap a s k)
      (fun _ => ih (.call g (appL first (appL (exs a c.args.toList) cap))) a s fun e _ s => valK e fun v => k v a s) fn.body)
    (fun _ _ _ _ _ _ _ _ _ => false)
    (fun b P _ c o a s k => evBuiltin b P o c a s k) c.callee P ih c o a s k
noncomputable def evDefer (P : Program) (c : Call) (a : Fr) (s : St) (k : K) : Bool :=
  Callee.rec (motive := fun _ => Program → Call → Fr → St → K → Bool)
    (fun f P c a s k => funcK (ex a f) fun g first cap => bif isGor P g then false else k (.tuple #[]) ⟨a.n, a.tmps, (g, appL first (appL (exs a c.args.toList) cap)) :: a.defers⟩ s)
    (fun _ _ _ _ _ _ _ => false) (fun _ _ _ _ _ _ => false) c.callee P c a s k
abbrev OpT := Program → IH → Oper → Fr → St → K → Bool
noncomputable def plainO : OpT := fun P _ o a s k => plainK P a s o k
noncomputable def noO : OpT := fun _ _ _ _ _ _ => false
noncomputable def evOp (op : Op) : OpT :=
  Op.rec (motive := fun _ => OpT)
    (fun x _ _ _ a s k => k (ex a x) a s) -- move
    (fun x _ _ _ a s k => k (ex a x) a s) -- assign
    (fun c x y _ _ _ a s k => boolK (ex a c) fun b => bif b then k (ex a x) a s else k (ex a y) a s) -- pick
    (fun t P _ _ a s k => evAlloc P t a s k)
    (fun t x _ _ _ a s k => evBox t x a s k)
    (fun t ps P _ _ a s k => evBuild P t ps a s k)
    (fun t n ps P _ _ a s k => evBuildSlice P t n ps a s k)
    (fun _ _ _ _ => noO) -- insert
    (fun t x P _ _ a s k => evLoad P t x a s k)
    (fun t x y P _ _ a s k => evStore P t x y a s k)
    (fun _ => noO) (fun _ => noO) -- ready, waits
    (fun x _ _ _ a s k => evNil x a s k)
    (fun op t x y _ P _ o a s k => evBin P op t x y o a s k)
    (fun _ _ _ => plainO) -- unOp
    (fun t u x P _ o a s k => evConvert P t u x o a s k)
    (fun _ _ => noO) -- sliceToArrayPointer
    (fun _ _ => plainO) -- makeInterface
    (fun f x y _ _ _ a s k => evMakeFunc f x y a s k)
    (fun _ r _ _ _ a s k => evMakeMap r a s k)
    (fun _ _ => noO) -- makeChan
    (fun t l c P _ _ a s k => evMakeSlice P t l c a s k)
    (fun t x lo hi mx P _ o a s k => evSlice P t x lo hi mx o a s k)
    (fun t x f P _ _ a s k => evFieldAddr P t x f a s k)
    (fun t x f P _ _ a s k => evField P t x f a s k)
    (fun t x ix P _ _ a s k => evIndexAddr P t x ix a s k)
    (fun t x ix P _ o a s k => evIndex P t x ix o a s k)
    (fun t x ix ok P _ _ a s k => evLookup P t x ix ok a s k)
    (fun t m x y P _ _ a s k => evMapUpdate P t m x y a s k)
    (fun _ _ _ => noO) (fun _ _ _ _ => noO) (fun _ _ => noO) (fun _ _ => noO) (fun _ => noO) -- mapEntry, entryStore, range, next, entry
    (fun _ _ _ _ => plainO) -- typeAssert
    (fun x i _ _ _ a s k => evExtract x i a s k)
    (fun c P ih o a s k => evCall P ih c o a s k)
    (fun _ => noO) -- go
    (fun c P _ _ a s k => evDefer P c a s k)
    (fun _ => noO) -- panic
    (fun _ _ => noO) (fun _ _ _ => noO) (fun _ _ => noO) op

/-! Regions. What is quiet comes first; of what is loud, one is behind the other. -/
def loudB (b : Builtin) : Bool := match b with | .len => false | .cap => false | .max => false | .min => false | .unsafeSliceData => false | _ => true
def loud (op : Op) : Bool := match op with
  | .call c => match c.callee with | .builtin b => loudB b | _ => true
  | .store .. => true
  | .mapUpdate .. => true
  | .panic _ => true
  | .defer _ => true
  | _ => false
/-- Memory is read. -/
def reads (op : Op) : Bool := match op with
  | .load .. => true
  | .lookup .. => true
  | .convert .. => true
  | .slice .. => true
  | .call _ => true
  | _ => false
def memN (i : Nat) : List Nat → Bool
  | [] => false
  | j :: l => bif Nat.beq i j then true else memN i l
/-- G: the variables of packages that may be named. -/
noncomputable def constOk (G : List Nat) (x : Operand) : Bool := match x with | .const v => flat v | .global g => memN g G | _ => true
def tmpsOf : List Operand → List Nat
  | [] => []
  | .tmp t :: l => t :: tmpsOf l
  | _ :: l => tmpsOf l
def guardTmp (ops : List Oper) (g : Option (Nat × Bool)) : Option (Nat × Bool) :=
  match g with
  | none => none
  | some (j, w) => match ops[j]? with
    | some o => match o.dst with | some d => some (d, w) | none => none
    | none => none
/-- A guard that is told has its slot. -/
def guardOk (ops : List Oper) (o : Oper) : Bool := match o.guard with | none => true | some _ => (guardTmp ops o.guard).isSome
noncomputable def operOk (G : List Nat) (ops : List Oper) (o : Oper) : Bool := guardOk ops o && o.op.operands.toList.all (constOk G)
/-- An operation, as it stands in a region: its number, what it waits for, the slots it reads. -/
structure Ent where
  i : Nat
  o : Oper
  g : Option (Nat × Bool)
  deps : List Nat
  rd : List Nat
def entOf (ops : List Oper) (i : Nat) (o : Oper) : Ent :=
  ⟨i, o, guardTmp ops o.guard, (o.after.toList.filter (Region.binds .any ·)).map (·.on), (match guardTmp ops o.guard with | some (d, _) => d :: tmpsOf o.op.operands.toList | none => tmpsOf o.op.operands.toList)⟩
def entsFrom (ops : List Oper) : Nat → List Oper → List Ent
  | _, [] => []
  | i, o :: l => entOf ops i o :: entsFrom ops (i + 1) l
def hasEnt (i : Nat) : List Ent → Bool
  | [] => false
  | e :: l => bif Nat.beq i e.i then true else hasEnt i l
def allDone (done : List Ent) : List Nat → Bool
  | [] => true
  | j :: l => bif hasEnt j done then allDone done l else false
/-- The first one that is ready and quiet (q), or the first one that is ready. -/
def pick1 (q : Bool) (done : List Ent) : List Ent → Option Ent
  | [] => none
  | e :: l => bif (q && loud e.o.op) || hasEnt e.i done || !(allDone done e.deps) then pick1 q done l else some e
/-- What lies ahead of each: marks, as bits. -/
def maskOf (tb : List (Nat × Nat)) (j : Nat) : Nat := match tb with | [] => 0 | (i, m) :: l => bif Nat.beq i j then m else maskOf l j
def ancOf (tb : List (Nat × Nat)) : List Nat → Nat
  | [] => 0
  | j :: l => Nat.lor (Nat.lor (Nat.pow 2 j) (maskOf tb j)) (ancOf tb l)
def isDst (o : Oper) (rd : List Nat) : Bool := match o.dst with | some d => memN d rd | none => false
def dstNe (x y : Oper) : Bool := match x.dst, y.dst with | some a, some b => !(Nat.beq a b) | _, _ => true
def lastLoud : List Ent → Option Nat
  | [] => none
  | e :: l => bif loud e.o.op then some e.i else lastLoud l
/-- e may come next. -/
def entOk (done : List Ent) (m : Nat) (e : Ent) : Bool :=
  allDone done e.deps && !(hasEnt e.i done) && (match lastLoud done with | some j => m.testBit j | none => true) &&
  done.all fun f => (!(isDst f.o e.rd) || m.testBit f.i) && (!(isDst e.o f.rd) || m.testBit f.i) && dstNe e.o f.o
/-- To be read again behind a loud one: what need not stand ahead of it. -/
def reOf (done : List Ent) (tb : List (Nat × Nat)) (m : Nat) : List Ent → List Ent
  | [] => []
  | f :: l => bif reads f.o.op && !(loud f.o.op) && !(m.testBit f.i) then f :: reOf done tb m l else reOf done tb m l
def reOk (done : List Ent) (tb : List (Nat × Nat)) (f : Ent) : Bool := !(isDst f.o f.rd) && done.all fun g => !(isDst g.o f.rd) || (maskOf tb f.i).testBit g.i
/-- One operation, with what is to be read again behind it. -/
structure PO where
  o : Oper
  g : Option (Nat × Bool)
  re : List Ent
/-- The order, or none where it does not fit. -/
def plan (es : List Ent) : Nat → List Ent → List (Nat × Nat) → Option (List PO)
  | 0, done, _ => bif es.all (fun e => hasEnt e.i done) then some [] else none
  | n + 1, done, tb =>
    match (match pick1 true done es with | some e => some e | none => pick1 false done es) with
    | none => none
    | some e =>
      let m := ancOf tb e.deps
      let re := bif loud e.o.op then reOf done tb m done else []
      bif entOk done m e && re.all (reOk done tb) then match plan es n (e :: done) ((e.i, m) :: tb) with
        | some l => some (⟨e.o, e.g, re⟩ :: l)
        | none => none
      else none
noncomputable def planOf (G : List Nat) (ops : List Oper) (draw : Bool) : Option (List PO) :=
  bif ops.all (operOk G ops) then (bif draw then plan (entsFrom ops 0 ops) ops.length [] [] else some (ops.map fun o => ⟨o, guardTmp ops o.guard, []⟩)) else none

noncomputable def guardK (a : Fr) (g : Option (Nat × Bool)) (yes no : Unit → Bool) : Bool :=
  Option.rec (motive := fun _ => Bool) (yes ()) (fun g => boolK (a.tmps.get (.tuple #[]) (path g.1)) fun b => bif b then (bif g.2 then yes () else no ()) else bif g.2 then no () else yes ()) g
/-- Equal, so far as this one looks. -/
def eqC : Value → Value → Bool
  | .bool a, .bool b => a == b
  | .int k a, .int l b => decide (k = l) && decide (a = b)
  | .string a, .string b => a.data.toList == b.data.toList
  | .pointer a, .pointer b => decide (a = b)
  | .slice a n c, .slice b m d => decide (a = b) && decide (n = m) && decide (c = d)
  | .map a, .map b => decide (a = b)
  | .nilFunc, .nilFunc => true
  | .nilIface, .nilIface => true
  | _, _ => false
def eqL : List Value → List Value → Bool
  | [], [] => true
  | a :: l, b :: m => eqC a b && eqL l m
  | _, _ => false
def eqV : Value → Value → Bool
  | .agg a, .agg b => eqL a.toList b.toList
  | .tuple a, .tuple b => eqL a.toList b.toList
  | a, b => eqC a b
noncomputable def againK (P : Program) (ih : IH) (re : List Ent) (a : Fr) (s : St) (k : Unit → Bool) : Bool :=
  List.rec (motive := fun _ => (Unit → Bool) → Bool) (fun k => k ()) (fun e _ r k => guardK a e.g
    (fun _ => evOp e.o.op P ih e.o a s fun v _ s' => bif Nat.beq s'.next s.next then optK e.o.dst fun d => bif eqV v (a.tmps.get (.tuple #[]) (path d)) then r k else false else false) (fun _ => r k)) re k
noncomputable def evPO (P : Program) (ih : IH) (p : PO) (a : Fr) (s : St) (k : Fr → St → Bool) : Bool :=
  guardK a p.g (fun _ => evOp p.o.op P ih p.o a s fun v a s => putT a p.o.dst v fun a => againK P ih p.re a s fun _ => k a s) (fun _ => putT a p.o.dst (.tuple #[]) fun a => k a s)
noncomputable def evOps (P : Program) (ih : IH) (l : List PO) : Fr → St → KE → Bool :=
  List.rec (motive := fun _ => Program → IH → Fr → St → KE → Bool) (fun _ _ a s k => k .normal a s) (fun p _ r P ih a s k => evPO P ih p a s fun a s => r P ih a s k) l P ih
/-- On from a normal end; else past. -/
noncomputable def thenK (e : Ex) : (Fr → St → Bool) → KE → Fr → St → Bool :=
  Ex.rec (motive := fun _ => (Fr → St → Bool) → KE → Fr → St → Bool) (fun n _ a s => n a s) (fun i _ k a s => k (.exit i) a s) (fun _ k a s => k .ret a s) (fun v _ k a s => k (.val v) a s) e
noncomputable def blockK (id : Nat) (e : Ex) : KE → Fr → St → Bool :=
  Ex.rec (motive := fun _ => Nat → KE → Fr → St → Bool) (fun _ k a s => k .normal a s) (fun i id k a s => bif Nat.beq i id then k .normal a s else k (.exit i) a s) (fun _ k a s => k .ret a s) (fun v _ k a s => k (.val v) a s) e id
noncomputable def evCode (c : Code) : List Nat → Program → IH → Fr → St → KE → Bool :=
  Code.rec (motive := fun _ => List Nat → Program → IH → Fr → St → KE → Bool)
    (fun _ _ _ a s k => k .normal a s)
    (fun _ ops draw G P ih a s k => optK (planOf G ops.toList draw) fun l => evOps P ih l a s k)
    (fun x y _ _ _ _ ih a s k => ih (.code x) a s fun e a s => thenK e (fun a s => ih (.code y) a s k) k a s)
    (fun c x y _ _ _ _ ih a s k => boolK (ex a c) fun b => bif b then ih (.code x) a s k else ih (.code y) a s k)
    (fun id c _ _ _ ih a s k => ih (.code c) a s fun e a s => blockK id e k a s)
    (fun c _ _ _ ih a s k => ih (.code c) a s fun e a s => thenK e (fun a s => ih (.code (.loop c)) a s k) k a s)
    (fun _ _ _ _ _ _ _ _ _ _ _ _ => false)
    (fun id _ _ _ a s k => k (.exit id) a s)
    (fun _ _ _ _ _ _ _ _ => false)
    (fun _ _ _ _ a s k => k .normal a s)
    (fun _ _ _ _ _ _ _ => false)
    (fun _ _ _ a s k => k .ret a s)
    (fun _ _ _ _ _ _ _ => false) c
noncomputable def argsT (l : List Value) : Nat → T Value → (T Value → Bool) → Bool :=
  List.rec (motive := fun _ => Nat → T Value → (T Value → Bool) → Bool) (fun _ t k => k t) (fun v _ ih i t k => t.setK (.tuple #[]) v (path i) fun t => ih (Nat.succ i) t k) l
noncomputable def resultK (P : Program) (a : Fr) (s : St) (r : ResultVar) (k : Value → Bool) : Bool :=
  ResultVar.rec (motive := fun _ => Program → Fr → St → (Value → Bool) → Bool) (fun t _ a _ k => k (a.tmps.get (.tuple #[]) (path t)))
    (fun c t P a s k => evLoad P t (.tmp c) a s fun v _ _ => k v) r P a s k
noncomputable def resultsK (P : Program) (a : Fr) (s : St) (rs : List ResultVar) : (List Value → Bool) → Bool :=
  List.rec (motive := fun _ => (List Value → Bool) → Bool) (fun k => k []) (fun r _ ih k => resultK P a s r fun v => ih fun vs => k (v :: vs)) rs
noncomputable def oneOr (vs : List Value) : Value := List.rec (motive := fun _ => Value) (.tuple #[]) (fun v t _ => List.rec (motive := fun _ => Value) v (fun _ _ _ => .tuple ⟨vs⟩) t) vs
noncomputable def doneK (e : Ex) : (Unit → Bool) → Bool := Ex.rec (motive := fun _ => (Unit → Bool) → Bool) (fun k => k ()) (fun _ _ => false) (fun k => k ()) (fun _ _ => false) e
/-- A region of one 'recover': its slot. -/
def recoverOf (ops : List Oper) : Option (Option Nat) :=
  match ops with
  | [o] => match o.op, o.guard with
    | .call c, none => match c.callee with | .builtin .recover => some o.dst | _ => none
    | _, _ => none
  | _ => none
/-- A deferred call's code: its 'recover' finds nothing. -/
noncomputable def evS (c : Code) : Program → IH → Fr → St → KE → Bool :=
  Code.rec (motive := fun _ => Program → IH → Fr → St → KE → Bool)
    (fun _ ih a s k => ih (.code .skip) a s k)
    (fun id ops draw _ ih a s k => Bool.rec (motive := fun _ => Bool)
      (Option.rec (motive := fun _ => Bool) (ih (.code (.region id ops draw)) a s k) (fun d => putT a d .nilIface fun a => k .normal a s) (recoverOf ops.toList))
      (ih (.code (.region id ops draw)) a s k) draw)
    (fun _ y r _ P ih a s k => r P ih a s fun e a s => thenK e (fun a s => ih (.code y) a s k) k a s)
    (fun c x y _ _ _ ih a s k => ih (.code (.cond c x y)) a s k)
    (fun id c _ _ ih a s k => ih (.code (.block id c)) a s k)
    (fun c _ _ ih a s k => ih (.code (.loop c)) a s k)
    (fun _ _ _ _ _ _ _ _ _ _ _ => false)
    (fun _ _ _ _ _ _ => false) (fun _ _ _ _ _ _ _ => false) (fun _ _ _ _ _ _ => false) (fun _ _ _ _ _ _ => false)
    (fun _ _ a s k => k .ret a s)
    (fun _ _ _ _ _ _ => false) c
noncomputable def evDeferred (P : Program) (ih : IH) (f : FuncId) (args : List Value) (s : St) (k : St → Bool) : Bool :=
  optK (fnOf P f) fun fn => optK fn.body fun c => argsT args 0 .leaf fun t => evS c P ih ⟨fn.ntmps, t, []⟩ s fun e a s => doneK e fun _ => bif nilL a.defers then resultsK P a s fn.results.toList fun _ => k s else false
noncomputable def evUndefer (P : Program) (ih : IH) (l : List (FuncId × List Value)) : St → (St → Bool) → Bool :=
  List.rec (motive := fun _ => Program → IH → St → (St → Bool) → Bool) (fun _ _ s k => k s) (fun d _ r P ih s k => evDeferred P ih d.1 d.2 s fun s => r P ih s k) l P ih
noncomputable def leaveK (P : Program) (ih : IH) (fn : Func) (a : Fr) (s : St) (k : KE) : Bool :=
  evUndefer P ih a.defers s fun s => resultsK P a s fn.results.toList fun vs => k (.val (oneOr vs)) a s
noncomputable def evEnter (P : Program) (ih : IH) (f : FuncId) (args : List Value) (s : St) (k : KE) : Bool :=
  optK (fnOf P f) fun fn => optK fn.body fun c => argsT args 0 .leaf fun t => ih (.code c) ⟨fn.ntmps, t, []⟩ s fun e a s => doneK e fun _ => leaveK P ih fn a s k
noncomputable def evStep (G : List Nat) (P : Program) (ih : IH) (t : Task) : Fr → St → KE → Bool :=
  Task.rec (motive := fun _ => List Nat → Program → IH → Fr → St → KE → Bool) (fun c G P ih a s k => evCode c G P ih a s k) (fun f args _ P ih _ s k => evEnter P ih f args s k) t G P ih
noncomputable def ev (G : List Nat) (P : Program) (n : Nat) : IH :=
  Nat.rec (motive := fun _ => IH) (fun _ _ _ _ => false) (fun _ ih => evStep G P ih) n
noncomputable def isTrue (v : Value) : Bool := boolK v fun b => b
/-- The tables are laid. -/
noncomputable def tabsK (l : List (Nat × Blk)) : T Blk → (T Blk → Bool) → Bool :=
  List.rec (motive := fun _ => T Blk → (T Blk → Bool) → Bool) (fun h k => k h) (fun p _ r h k => h.setK .dead p.2 (path p.1) fun h => r h k) l
noncomputable def runs (tabs : List (Nat × Blk)) (P : Program) (f : FuncId) (next fuel : Nat) : Bool :=
  tabsK tabs .leaf fun h => ev (mapL (fun p => p.1) tabs) P fuel (.call f []) ⟨0, .leaf, []⟩ ⟨h, next⟩ fun e _ _ => valK e isTrue
noncomputable def tabBlk (l : List Nat) (k : IntKind) : Blk := .cells (l.map fun x => .int k (.ofNat x)) 0 .tab
end Go.Ev
