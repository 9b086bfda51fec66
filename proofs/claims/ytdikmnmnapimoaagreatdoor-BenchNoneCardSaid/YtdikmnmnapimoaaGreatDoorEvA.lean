/-
An evaluator for Go's operations over an ideal heap, and that what single operations come to there they come to in the machine. No condition.
-/
import GoSem.Step
import GoSem.ClaimFollow
import Derived.Laws.World
import Derived.Laws.Sem

/-
An evaluator for Go's operations over an ideal heap: one order of evaluation, no addresses, capacities that nobody knows.
-/
namespace Go.Ideal
open Go

/-! ## Tries -/

inductive T (α : Type) where
  | e
  | n (l : T α) (v : α) (r : T α)

noncomputable def getV : T Value → Nat → Value :=
  @T.rec Value (fun _ => Nat → Value) (fun _ => undef)
    (fun _ v _ gl gr i => @Nat.rec (fun _ => Value) v (fun j _ => @Nat.rec (fun _ => Value) (gl (Nat.div j 2)) (fun _ _ => gr (Nat.div j 2)) (Nat.mod j 2)) i)

noncomputable def oneV : Nat → Nat → Value → T Value :=
  @Nat.rec (fun _ => Nat → Value → T Value) (fun _ _ => .e)
    (fun _ ih i a => @Nat.rec (fun _ => T Value) (.n .e a .e) (fun j _ => @Nat.rec (fun _ => T Value) (.n (ih (Nat.div j 2) a) undef .e) (fun _ _ => .n .e undef (ih (Nat.div j 2) a)) (Nat.mod j 2)) i)

noncomputable def setV : T Value → Nat → Value → T Value :=
  @T.rec Value (fun _ => Nat → Value → T Value) (fun i a => oneV (Nat.succ i) i a)
    (fun l v r sl sr i a => @Nat.rec (fun _ => T Value) (.n l a r) (fun j _ => @Nat.rec (fun _ => T Value) (.n (sl (Nat.div j 2) a) v r) (fun _ _ => .n l v (sr (Nat.div j 2) a)) (Nat.mod j 2)) i)

/-! ## The ideal heap -/

structure ILoop where
  state : LoopState
  pending : Option Code
  fn : FuncId
  tmps : T Value
  params : Array Tmp
  assign : Code
  body : Code
  S : Nat

/-- row: `over` holds the cells that were set, the others have `dflt`, again and again; `exact`: the block is just that row. rom: cells that nobody writes. -/
inductive IObj where
  | row (over : T Value) (dflt : List Value) (n : Nat) (elem : TypeId) (exact : Bool)
  | rom (cs : T Value) (n : Nat)
  | dead
  | map (es : List MapEntry) (clock : Nat)
  | loop (l : ILoop)
  | defd

noncomputable def getO : T IObj → Nat → IObj :=
  @T.rec IObj (fun _ => Nat → IObj) (fun _ => .dead)
    (fun _ v _ gl gr i => @Nat.rec (fun _ => IObj) v (fun j _ => @Nat.rec (fun _ => IObj) (gl (Nat.div j 2)) (fun _ _ => gr (Nat.div j 2)) (Nat.mod j 2)) i)

noncomputable def oneO : Nat → Nat → IObj → T IObj :=
  @Nat.rec (fun _ => Nat → IObj → T IObj) (fun _ _ => .e)
    (fun _ ih i a => @Nat.rec (fun _ => T IObj) (.n .e a .e) (fun j _ => @Nat.rec (fun _ => T IObj) (.n (ih (Nat.div j 2) a) .dead .e) (fun _ _ => .n .e .dead (ih (Nat.div j 2) a)) (Nat.mod j 2)) i)

noncomputable def setO : T IObj → Nat → IObj → T IObj :=
  @T.rec IObj (fun _ => Nat → IObj → T IObj) (fun i a => oneO (Nat.succ i) i a)
    (fun l v r sl sr i a => @Nat.rec (fun _ => T IObj) (.n l a r) (fun j _ => @Nat.rec (fun _ => T IObj) (.n (sl (Nat.div j 2) a) v r) (fun _ _ => .n l v (sr (Nat.div j 2) a)) (Nat.mod j 2)) i)

noncomputable def getF : T (Option Func) → Nat → (Option Func) :=
  @T.rec (Option Func) (fun _ => Nat → (Option Func)) (fun _ => none)
    (fun _ v _ gl gr i => @Nat.rec (fun _ => (Option Func)) v (fun j _ => @Nat.rec (fun _ => (Option Func)) (gl (Nat.div j 2)) (fun _ _ => gr (Nat.div j 2)) (Nat.mod j 2)) i)

noncomputable def oneF : Nat → Nat → (Option Func) → T (Option Func) :=
  @Nat.rec (fun _ => Nat → (Option Func) → T (Option Func)) (fun _ _ => .e)
    (fun _ ih i a => @Nat.rec (fun _ => T (Option Func)) (.n .e a .e) (fun j _ => @Nat.rec (fun _ => T (Option Func)) (.n (ih (Nat.div j 2) a) none .e) (fun _ _ => .n .e none (ih (Nat.div j 2) a)) (Nat.mod j 2)) i)

noncomputable def setF : T (Option Func) → Nat → (Option Func) → T (Option Func) :=
  @T.rec (Option Func) (fun _ => Nat → (Option Func) → T (Option Func)) (fun i a => oneF (Nat.succ i) i a)
    (fun l v r sl sr i a => @Nat.rec (fun _ => T (Option Func)) (.n l a r) (fun j _ => @Nat.rec (fun _ => T (Option Func)) (.n (sl (Nat.div j 2) a) v r) (fun _ _ => .n l v (sr (Nat.div j 2) a)) (Nat.mod j 2)) i)

noncomputable def getY : T (Option TypeInfo) → Nat → (Option TypeInfo) :=
  @T.rec (Option TypeInfo) (fun _ => Nat → (Option TypeInfo)) (fun _ => none)
    (fun _ v _ gl gr i => @Nat.rec (fun _ => (Option TypeInfo)) v (fun j _ => @Nat.rec (fun _ => (Option TypeInfo)) (gl (Nat.div j 2)) (fun _ _ => gr (Nat.div j 2)) (Nat.mod j 2)) i)

noncomputable def oneY : Nat → Nat → (Option TypeInfo) → T (Option TypeInfo) :=
  @Nat.rec (fun _ => Nat → (Option TypeInfo) → T (Option TypeInfo)) (fun _ _ => .e)
    (fun _ ih i a => @Nat.rec (fun _ => T (Option TypeInfo)) (.n .e a .e) (fun j _ => @Nat.rec (fun _ => T (Option TypeInfo)) (.n (ih (Nat.div j 2) a) none .e) (fun _ _ => .n .e none (ih (Nat.div j 2) a)) (Nat.mod j 2)) i)

noncomputable def setY : T (Option TypeInfo) → Nat → (Option TypeInfo) → T (Option TypeInfo) :=
  @T.rec (Option TypeInfo) (fun _ => Nat → (Option TypeInfo) → T (Option TypeInfo)) (fun i a => oneY (Nat.succ i) i a)
    (fun l v r sl sr i a => @Nat.rec (fun _ => T (Option TypeInfo)) (.n l a r) (fun j _ => @Nat.rec (fun _ => T (Option TypeInfo)) (.n (sl (Nat.div j 2) a) v r) (fun _ _ => .n l v (sr (Nat.div j 2) a)) (Nat.mod j 2)) i)

noncomputable def ofF : List Func → Nat → T (Option Func) → T (Option Func) :=
  @List.rec Func (fun _ => Nat → T (Option Func) → T (Option Func)) (fun _ t => t) (fun x _ r i t => r (Nat.succ i) (setF t i (some x)))

noncomputable def ofY : List TypeInfo → Nat → T (Option TypeInfo) → T (Option TypeInfo) :=
  @List.rec TypeInfo (fun _ => Nat → T (Option TypeInfo) → T (Option TypeInfo)) (fun _ t => t) (fun x _ r i t => r (Nat.succ i) (setY t i (some x)))

/-- a program, and its tables once more, to look things up quickly -/
structure Pg where
  P : Program
  fn : T (Option Func)
  ty : T (Option TypeInfo)

noncomputable def Pg.info (L : Pg) (t : TypeId) : Option TypeInfo := getY L.ty t

noncomputable def Pg.und (L : Pg) (t : TypeId) : Option TypeDesc :=
  match L.info t with
  | some i => match i.desc with
    | .named _ u => match L.info u with
      | some j => some j.desc
      | none => none
    | d => some d
  | none => none

structure ISt where
  heap : T IObj
  next : Nat

inductive IDef where
  | collected (r : Nat)
  | call (fn : Fn) (captured args : Array Value)

/-- what stays as it is while a function's body runs -/
structure Ctx where
  round : Option Nat
  fn : FuncId

/-- an unknown capacity -/
def UNK : Nat := 18446744073709551616

inductive Exit where
  | normal | ret | exit (id : Nat) | goto (l : Nat)

noncomputable def nthU : List Value → Nat → Value :=
  @List.rec Value (fun _ => Nat → Value) (fun _ => undef) (fun a _ r i => @Nat.rec (fun _ => Value) a (fun j _ => r j) i)

noncomputable def nth {α : Type} : List α → Nat → Option α
  | [], _ => none
  | a :: l, i => match i with
    | 0 => some a
    | j + 1 => nth l j

noncomputable def nthV : List Value → Nat → Option Value :=
  @List.rec Value (fun _ => Nat → Option Value) (fun _ => none) (fun a _ r i => @Nat.rec (fun _ => Option Value) (some a) (fun j _ => r j) i)

/-- is this value one that stands for "not set"? -/
noncomputable def isTup : Value → Bool :=
  @Value.rec (fun _ => Bool) (fun _ => Unit) (fun _ => Unit)
    (fun _ => false)
    (fun _ _ => false)
    (fun _ _ => false)
    (fun _ _ _ => false)
    (fun _ => false)
    (fun _ => false)
    (fun _ _ _ => false)
    (fun _ => false)
    (fun _ => false)
    (fun _ _ _ _ _ => false)
    (false)
    (fun _ _ _ => false)
    (false)
    (fun _ _ => false)
    (fun _ _ => true)
    (fun _ _ => ()) () (fun _ _ _ _ => ())

/-- a cell that was not set has its zero -/
noncomputable def orZero (v : Value) (dflt : List Value) (i : Nat) : Option Value :=
  @Bool.rec (fun _ => Option Value) (some v) (nthV dflt (Nat.mod i dflt.length)) (isTup v)

noncomputable def rowGet (over : T Value) (dflt : List Value) (n i : Nat) : Option Value :=
  @Bool.rec (fun _ => Option Value) none (orZero (getV over i) dflt i) (Nat.blt i n)

noncomputable def rowMany (over : T Value) (dflt : List Value) (n : Nat) : (k i : Nat) → Option (List Value)
  | 0, _ => some []
  | k + 1, i => match rowGet over dflt n i with
    | some v => match rowMany over dflt n k (Nat.succ i) with
      | some l => some (v :: l)
      | none => none
    | none => none

noncomputable def objCell : IObj → Nat → Option Value :=
  @IObj.rec (fun _ => Nat → Option Value) (fun over dflt n _ _ i => rowGet over dflt n i) (fun cs n i => rowGet cs [] n i) (fun _ => none) (fun _ _ _ => none) (fun _ _ => none) (fun _ => none)

noncomputable def objCells : IObj → Nat → Nat → Option (List Value) :=
  @IObj.rec (fun _ => Nat → Nat → Option (List Value)) (fun over dflt n _ _ k i => rowMany over dflt n k i) (fun cs n k i => rowMany cs [] n k i) (fun _ _ => none) (fun _ _ _ _ => none) (fun _ _ _ => none) (fun _ _ => none)

noncomputable def ISt.load (st : ISt) (a : Addr) (k : Nat) : Option (List Value) := objCells (getO st.heap a.block) k a.off

noncomputable def rowPut (over : T Value) (n : Nat) : (i : Nat) → List Value → Option (T Value)
  | _, [] => some over
  | i, v :: l => match Nat.blt i n with
    | true => rowPut (setV over i v) n (Nat.succ i) l
    | false => none

noncomputable def oneCell : Value → Bool :=
  @Value.rec (fun _ => Bool) (fun _ => Unit) (fun _ => Unit)
    (fun _ => true)
    (fun _ _ => true)
    (fun _ _ => true)
    (fun _ _ _ => true)
    (fun _ => true)
    (fun _ => true)
    (fun _ _ _ => true)
    (fun _ => true)
    (fun _ => true)
    (fun _ _ _ _ _ => true)
    (true)
    (fun _ _ _ => true)
    (true)
    (fun _ _ => false)
    (fun _ _ => false)
    (fun _ _ => ()) () (fun _ _ _ _ => ())

noncomputable def allOne : List Value → Bool
  | [] => true
  | v :: l => match oneCell v with
    | true => allOne l
    | false => false

noncomputable def objSet : IObj → Nat → Value → Option IObj :=
  @IObj.rec (fun _ => Nat → Value → Option IObj)
    (fun over dflt n elem ex i v => @Bool.rec (fun _ => Option IObj) none (some (.row (setV over i v) dflt n elem ex)) (Nat.blt i n))
    (fun _ _ _ _ => none) (fun _ _ => none) (fun _ _ _ _ => none) (fun _ _ _ => none) (fun _ _ => none)

noncomputable def objPut : IObj → Nat → List Value → Option IObj :=
  @IObj.rec (fun _ => Nat → List Value → Option IObj)
    (fun over dflt n elem ex i l => @Option.rec (T Value) (fun _ => Option IObj) none (fun over' => some (.row over' dflt n elem ex)) (rowPut over n i l))
    (fun _ _ _ _ => none) (fun _ _ => none) (fun _ _ _ _ => none) (fun _ _ _ => none) (fun _ _ => none)

noncomputable def ISt.with (st : ISt) (b : Nat) (o : IObj) : ISt := ⟨setO st.heap b o, st.next⟩

noncomputable def withO (st : ISt) (b : Nat) : Option IObj → Option ISt :=
  @Option.rec IObj (fun _ => Option ISt) none (fun o => some (st.with b o))

noncomputable def ISt.store (st : ISt) (a : Addr) (vs : List Value) : Option ISt :=
  @Bool.rec (fun _ => Option ISt) none (withO st a.block (objPut (getO st.heap a.block) a.off vs)) (allOne vs)

noncomputable def ISt.store1 (st : ISt) (a : Addr) (v : Value) : Option ISt :=
  @Bool.rec (fun _ => Option ISt) none (withO st a.block (objSet (getO st.heap a.block) a.off v)) (oneCell v)

noncomputable def ISt.alloc (st : ISt) (o : IObj) : Nat × ISt := (st.next, ⟨setO st.heap st.next o, Nat.succ st.next⟩)

noncomputable def listRow : List Value → Nat → T Value → T Value :=
  @List.rec Value (fun _ => Nat → T Value → T Value) (fun _ t => t) (fun v _ r i t => r (Nat.succ i) (setV t i v))

noncomputable def ISt.newRow (st : ISt) (elem : TypeId) (vs : List Value) (ex : Bool) : Nat × ISt :=
  st.alloc (.row (listRow vs 0 .e) [] vs.length elem ex)

noncomputable def isAggD : TypeDesc → Bool
  | .struct _ | .array _ _ => true
  | _ => false

noncomputable def szOf (L : Pg) (t : TypeId) : Option Nat := match L.info t with | some i => some i.size | none => none

noncomputable def aggOf (L : Pg) (t : TypeId) : Option Bool := match L.und t with | some d => some (isAggD d) | none => none

noncomputable def loadAgg (st : ISt) (a : Addr) : Option Nat → Option Value :=
  @Option.rec Nat (fun _ => Option Value) none (fun n => @Option.rec (List Value) (fun _ => Option Value) none (fun l => some (.agg ⟨l⟩)) (st.load a n))

noncomputable def loadVar (L : Pg) (st : ISt) (t : TypeId) (a : Addr) : Option Value :=
  @Option.rec Bool (fun _ => Option Value) none (fun b => @Bool.rec (fun _ => Option Value) (objCell (getO st.heap a.block) a.off) (loadAgg st a (szOf L t)) b) (aggOf L t)

noncomputable def cellsL : Value → List Value
  | .agg cs => cs.toList
  | v => [v]

noncomputable def storeAgg (L : Pg) (st : ISt) (t : TypeId) (a : Addr) (v : Value) : Option ISt :=
  match szOf L t with
  | some n => match Nat.beq (cellsL v).length n with
    | true => st.store a (cellsL v)
    | false => none
  | none => none

noncomputable def isOne : Option Nat → Bool
  | some 1 => true
  | _ => false

noncomputable def storeVar (L : Pg) (st : ISt) (t : TypeId) (a : Addr) (v : Value) : Option ISt :=
  @Option.rec Bool (fun _ => Option ISt) none (fun b => @Bool.rec (fun _ => Option ISt)
    (@Bool.rec (fun _ => Option ISt) none (st.store1 a v) (isOne (szOf L t))) (storeAgg L st t a v) b) (aggOf L t)

noncomputable def pureRun {α : Type} (P : Program) : Sem α → Option α
  | .pure a => some a
  | .program k => pureRun P (k P)
  | .mark _ k => pureRun P k
  | _ => none

noncomputable def flat : Value → Bool
  | .bool _ | .int _ _ | .float _ _ | .string _ | .pointer none | .slice none _ _ | .map none | .nilFunc | .nilIface => true
  | _ => false

noncomputable def okFlat : Option Value → Option Value
  | none => none
  | some v => match flat v with
    | true => some v
    | false => none

/-- what needs no memory, and gives no place -/
noncomputable def pureV (P : Program) (s : Sem Value) : Option Value := okFlat (pureRun P s)

/-- what an operation comes to -/
inductive R where
  | fail
  | val (v : Value) (st : ISt)
  | skip (st : ISt)
  | enter (f : FuncId) (args : Array Value) (st : ISt)
  | yield (l : Nat) (args : Array Value) (st : ISt)
  | defer (d : IDef)

/-- a zero value has no places -/
noncomputable def okZ (z : Value) : Bool :=
  match z with
  | .agg cs => cs.toList.all flat
  | v => flat v

noncomputable def okZero : Option Value → Option Value
  | none => none
  | some z => match okZ z with
    | true => some z
    | false => none

noncomputable def zeroOf (L : Pg) (t : TypeId) : Option Value :=
  match L.info t with
  | some i => okZero i.zero
  | none => none

noncomputable def R.ofV (st : ISt) : Option Value → R := @Option.rec Value (fun _ => R) .fail (fun v => .val v st)

noncomputable def R.ofS : Option ISt → R := @Option.rec ISt (fun _ => R) .fail (fun st => .skip st)

noncomputable def part (L : Pg) (t : TypeId) (cs : List Value) (off : Nat) : Option Value :=
  match aggOf L t, szOf L t with
  | some true, some n => some (.agg ⟨(cs.drop off).take n⟩)
  | some false, _ => nth cs off
  | _, _ => none

noncomputable def fieldOf (L : Pg) (s : TypeId) (i : Nat) : Option Field :=
  match L.und s with
  | some (.struct fs) => nth fs.toList i
  | _ => none

noncomputable def fillL (place : Nat → Option (Nat × Nat)) (cells : T Value) (n : Nat) : List (Nat × Value) → Option (T Value)
  | [] => some cells
  | (i, v) :: rest => match place i with
    | none => none
    | some (off, size) => match (Nat.beq (cellsL v).length size).and ((Nat.ble (Nat.add off size) n).and (allOne (cellsL v))) with
      | true => match rowPut cells n off (cellsL v) with
        | some c => fillL place c n rest
        | none => none
      | false => none

noncomputable def mkPlaces (L : Pg) : List Field → Option (List (Nat × Nat))
  | [] => some []
  | f :: fs => match szOf L f.type, mkPlaces L fs with
    | some n, some l => some ((f.offset, n) :: l)
    | _, _ => none

noncomputable def build (L : Pg) (t : TypeId) (parts : List (Nat × Value)) : Option Value :=
  match zeroOf L t with
  | none => none
  | some z =>
    let zl := cellsL z
    let n := zl.length
    match L.und t with
    | some (.struct fs) => match mkPlaces L fs.toList with
      | some pl => match fillL (nth pl) .e n parts with
        | some c => match rowMany c zl n n 0 with
          | some l => some (.agg ⟨l⟩)
          | none => none
        | none => none
      | none => none
    | some (.array _ elem) => match szOf L elem with
      | some k => match fillL (fun i => some (Nat.mul i k, k)) .e n parts with
        | some c => match rowMany c zl n n 0 with
          | some l => some (.agg ⟨l⟩)
          | none => none
        | none => none
      | none => none
    | _ => none

noncomputable def buildSlice (L : Pg) (st : ISt) (t : TypeId) (len : Nat) (parts : List (Nat × Value)) : R :=
  match L.und t with
  | some (.slice elem) => match szOf L elem with
    | some k =>
      let n := Nat.mul len k
      match (Nat.ble n 65536).and (Nat.ble len 65536) with
      | false => .fail
      | true =>
        match (match n with | 0 => some [] | _ => (match zeroOf L elem with | some z => some (cellsL z) | none => none)) with
        | none => .fail
        | some zl => match fillL (fun i => some (Nat.mul i k, k)) .e n parts with
          | some c => match st.alloc (.row c zl n elem true) with
            | (b, st') => .val (.slice (some ⟨b, 0, none⟩) len len) st'
          | none => .fail
    | none => .fail
  | _ => .fail

noncomputable def addA (a : Addr) (n : Nat) : Addr := ⟨a.block, Nat.add a.off n, none⟩

noncomputable def natV : Value → Option Nat :=
  @Value.rec (fun _ => Option Nat) (fun _ => Unit) (fun _ => Unit)
    (fun _ => none)
    (fun _ n => @Int.rec (fun _ => Option Nat) (fun m => some m) (fun _ => none) n)
    (fun _ _ => none)
    (fun _ _ _ => none)
    (fun _ => none)
    (fun _ => none)
    (fun _ _ _ => none)
    (fun _ => none)
    (fun _ => none)
    (fun _ _ _ _ _ => none)
    (none)
    (fun _ _ _ => none)
    (none)
    (fun _ _ => none)
    (fun _ _ => none)
    (fun _ _ => ()) () (fun _ _ _ _ => ())

noncomputable def ptrOf : Value → Option Addr :=
  @Value.rec (fun _ => Option Addr) (fun _ => Unit) (fun _ => Unit)
    (fun _ => none)
    (fun _ _ => none)
    (fun _ _ => none)
    (fun _ _ _ => none)
    (fun _ => none)
    (fun a => a)
    (fun _ _ _ => none)
    (fun _ => none)
    (fun _ => none)
    (fun _ _ _ _ _ => none)
    (none)
    (fun _ _ _ => none)
    (none)
    (fun _ _ => none)
    (fun _ _ => none)
    (fun _ _ => ()) () (fun _ _ _ _ => ())

noncomputable def iIaddrS (k : Nat) : Value → Value → ISt → R :=
  @Value.rec (fun _ => Value → ISt → R) (fun _ => Unit) (fun _ => Unit)
    (fun _ => fun _ _ => .fail)
    (fun _ _ => fun _ _ => .fail)
    (fun _ _ => fun _ _ => .fail)
    (fun _ _ _ => fun _ _ => .fail)
    (fun _ => fun _ _ => .fail)
    (fun _ => fun _ _ => .fail)
    (fun a len _ => fun i st => @Option.rec Addr (fun _ => R) .fail (fun a => @Option.rec Nat (fun _ => R) .fail (fun i => @Bool.rec (fun _ => R) .fail (.val (.pointer (some (addA a (Nat.mul i k)))) st) (Nat.blt i len)) (natV i)) a)
    (fun _ => fun _ _ => .fail)
    (fun _ => fun _ _ => .fail)
    (fun _ _ _ _ _ => fun _ _ => .fail)
    (fun _ _ => .fail)
    (fun _ _ _ => fun _ _ => .fail)
    (fun _ _ => .fail)
    (fun _ _ => fun _ _ => .fail)
    (fun _ _ => fun _ _ => .fail)
    (fun _ _ => ()) () (fun _ _ _ _ => ())

noncomputable def iIaddrA (len k : Nat) (x i : Value) (st : ISt) : R :=
  @Option.rec Addr (fun _ => R) .fail (fun a => @Option.rec Nat (fun _ => R) .fail (fun i => @Bool.rec (fun _ => R) .fail (.val (.pointer (some (addA a (Nat.mul i k)))) st) (Nat.blt i len)) (natV i)) (ptrOf x)

/-- the address of an element; arrays of one element or none are left -/
noncomputable def iIaddr (L : Pg) (t : TypeId) (x i : Value) (st : ISt) : R :=
  match L.und t with
  | some (.slice elem) => match szOf L elem with
    | some k => iIaddrS k x i st
    | none => .fail
  | some (.array len elem) => match szOf L elem with
    | some k => iIaddrA len k x i st
    | none => .fail
  | _ => .fail

noncomputable def indexV (L : Pg) (t : TypeId) (x ix : Value) : Option Value :=
  match ix with
  | .int _ (.ofNat i) => match L.und t, x with
    | some (.array len elem), .agg cs => match Nat.blt i len, szOf L elem with
      | true, some k => part L elem cs.toList (Nat.mul i k)
      | _, _ => none
    | some .string, .string s => match nth s.data.toList i with
      | some b => some (.int .u8 b.toNat)
      | none => none
    | _, _ => none
  | _ => none

noncomputable def bound (x : Option Value) (dflt y : Nat) : Option Nat :=
  match x with
  | none => some dflt
  | some (.int _ (.ofNat i)) => match Nat.ble i y with
    | true => some i
    | false => none
  | some _ => none

/-- a slice of what has room for `cap`, up to `m` -/
noncomputable def sliceK (a : Option Addr) (m l h k : Nat) : Option Value :=
  match Nat.blt m UNK with
  | true => some (.slice (match a with
    | none => none
    | some a => some (match Nat.beq m l with | true => a | false => addA a (Nat.mul l k))) (Nat.sub h l) (Nat.sub m l))
  | false => none

/-- low and high, the latter at most `top`; without one it is `dflt` -/
noncomputable def bounds (lo hi : Option Value) (dflt top : Nat) : Option (Nat × Nat) :=
  match bound hi dflt top with
  | some h => match bound lo 0 h with
    | some l => some (l, h)
    | none => none
  | none => none

/-- what a slice expression over a slice comes to -/
noncomputable def sliceS (a : Option Addr) (len cap k : Nat) (lo hi mx : Option Value) : Option Value :=
  match mx with
  | some _ => match bound mx 0 (Nat.min len cap), hi with
    | some m, some _ => match bounds lo hi 0 m with
      | some (l, h) => sliceK a m l h k
      | none => none
    | _, _ => none
  | none => match Nat.blt cap UNK with
    | true => match bounds lo hi len cap with
      | some (l, h) => sliceK a cap l h k
      | none => none
    | false => match Nat.beq cap (Nat.add UNK k), a, bounds lo hi len len with
      | true, some a, some (l, h) => some (.slice (some (addA a (Nat.mul l k))) (Nat.sub h l) cap)
      | _, _, _ => none

noncomputable def sliceV (L : Pg) (t : TypeId) (x : Value) (lo hi mx : Option Value) : Option Value :=
  match L.und t, x with
  | some .string, .string s => match mx with
    | none => match bounds lo hi s.data.toList.length s.data.toList.length with
      | some (l, h) => some (.string ⟨⟨(s.data.toList.drop l).take (Nat.sub h l)⟩⟩)
      | none => none
    | some _ => none
  | some (.slice elem), .slice a len cap => match szOf L elem with
    | some k => sliceS a len cap k lo hi mx
    | none => none
  | some (.array n elem), .pointer (some a) => match szOf L elem, mx with
    | some k, none => match bounds lo hi n n with
      | some (l, h) => sliceK (some a) n l h k
      | none => none
    | _, _ => none
  | _, _ => none

noncomputable def lenOf : Value → Option Nat
  | .slice _ n _ => some n
  | .string s => some s.data.toList.length
  | _ => none

noncomputable def bytesV : List UInt8 → List Value
  | [] => []
  | b :: l => .int .u8 b.toNat :: bytesV l

noncomputable def firstCells (st : ISt) (k n : Nat) : Value → Option (List Value)
  | .slice (some a) _ _ => match n with
    | 0 => some []
    | _ => st.load a (Nat.mul n k)
  | .slice none _ _ => match n with
    | 0 => some []
    | _ => none
  | .string s => match Nat.beq k 1 with
    | true => some (bytesV (s.data.toList.take n))
    | false => none
  | _ => none

noncomputable def isSeq : TypeDesc → Bool
  | .slice _ | .string => true
  | _ => false

noncomputable def ISt.kill (st : ISt) (b : Nat) : ISt := st.with b .dead

noncomputable def appGrow (st : ISt) (b : Option Nat) (elem : TypeId) (n k : Nat) (cs : List Value) : R :=
  match ((match b with | some b => st.kill b | none => st) : ISt).newRow elem cs false with
  | (b, st') => .val (.slice (some ⟨b, 0, none⟩) n (Nat.add UNK k)) st'

noncomputable def zeroFits (i : TypeInfo) : Bool :=
  match i.zero with
  | some z => Nat.beq (cellsL z).length i.size
  | none => false

noncomputable def okGrow (n : Nat) (i : TypeInfo) : Bool :=
  (Nat.ble (Nat.mul (Nat.add (Nat.mul 2 n) 1024) i.bytes) 281474976710656).and ((Nat.blt 0 i.bytes).and ((Nat.blt 0 i.size).and (zeroFits i)))

noncomputable def rowOf (elem : TypeId) : IObj → Bool
  | .row _ _ _ e _ => Nat.beq e elem
  | _ => false

noncomputable def append (L : Pg) (st : ISt) (ts : List TypeId) (args : List Value) : R :=
  match ts, args with
  | sT :: xT :: _, s :: x :: _ => match L.und sT, L.und xT, s, lenOf x with
    | some (.slice elem), some xd, .slice base sLen sCap, some n => match isSeq xd with
      | false => .fail
      | true => match L.info elem with
        | none => .fail
        | some i => match okGrow (Nat.add sLen n) i with
          | false => .fail
          | true => match firstCells st i.size n x with
            | none => .fail
            | some new => match n with
              | 0 => match Nat.ble sLen sCap with
                | true => .val s st
                | false => .fail
              | _ => match Nat.beq sCap (Nat.add UNK i.size) with
                | true => match base with
                  | none => .fail
                  | some a => match (rowOf elem (getO st.heap a.block)).and (allOne new) with
                    | false => .fail
                    | true => match firstCells st i.size sLen s with
                      | none => .fail
                      | some old => appGrow st (some a.block) elem (Nat.add sLen n) i.size (old ++ new)
                | false => match Nat.blt sCap UNK with
                 | false => .fail
                 | true => match Nat.ble (Nat.add sLen n) sCap with
                  | true => match base with
                    | none => .fail
                    | some a => match st.store (addA a (Nat.mul sLen i.size)) new with
                        | some st' => .val (.slice base (Nat.add sLen n) sCap) st'
                        | none => .fail
                  | false => match firstCells st i.size sLen s with
                    | none => .fail
                    | some old => appGrow st none elem (Nat.add sLen n) i.size (old ++ new)
    | _, _, _, _ => .fail
  | _, _ => .fail

noncomputable def lenV (L : Pg) (st : ISt) (t : TypeId) (x : Value) : Option Value :=
  match L.und t, x with
  | some .string, .string s => some (.int .i64 s.data.toList.length)
  | some (.array n _), _ => some (.int .i64 n)
  | some (.pointer arr), _ => match L.und arr with
    | some (.array n _) => some (.int .i64 n)
    | _ => none
  | some (.slice _), .slice _ n _ => some (.int .i64 n)
  | some (.map _ _), .map none => some (.int .i64 0)
  | some (.map _ _), .map (some r) => match getO st.heap r with
    | .map es _ => some (.int .i64 es.length)
    | _ => none
  | _, _ => none

noncomputable def kindNo : IntKind → Nat := @IntKind.rec (fun _ => Nat) 0 1 2 3 4 5 6 7

noncomputable def bytesEq : List UInt8 → List UInt8 → Bool
  | [], [] => true
  | a :: l, b :: m => match Nat.beq a.toNat b.toNat with
    | true => bytesEq l m
    | false => false
  | _, _ => false

noncomputable def intEq : Int → Int → Bool
  | .ofNat a, .ofNat b => Nat.beq a b
  | .negSucc a, .negSucc b => Nat.beq a b
  | _, _ => false

noncomputable def keyEq : Value → Value → Option Bool
  | .int k a, .int k' b => match Nat.beq (kindNo k) (kindNo k') with
    | true => some (intEq a b)
    | false => none
  | .string a, .string b => some (bytesEq a.data.toList b.data.toList)
  | _, _ => none

noncomputable def keyKind (L : Pg) (t : TypeId) (key : Value) : Bool :=
  match L.und t, key with
  | some (.int _), .int _ _ => true
  | some .string, .string _ => true
  | _, _ => false

noncomputable def findKey (k : Value) : List MapEntry → Nat → Option (Option (Nat × Value))
  | [], _ => some none
  | e :: es, i => match keyEq k e.key with
    | some true => some (some (i, e.val))
    | some false => findKey k es (Nat.succ i)
    | none => none

noncomputable def setVal (v : Value) (key : Value) : List MapEntry → Nat → List MapEntry
  | [], _ => []
  | e :: es, i => match i with
    | 0 => { e with val := v, key := key } :: es
    | j + 1 => e :: setVal v key es j

noncomputable def dropAt : List MapEntry → Nat → List MapEntry
  | [], _ => []
  | e :: es, i => match i with
    | 0 => es
    | j + 1 => e :: dropAt es j

noncomputable def okKey : Value → Bool
  | .int _ _ | .string _ => true
  | _ => false

noncomputable def lookup (L : Pg) (st : ISt) (t : TypeId) (x key : Value) (ok : Bool) : Option Value :=
  match L.und t with
  | some (.map kt et) => match keyKind L kt key with
    | true =>
      match (match x with
        | .map none => some []
        | .map (some r) => (match getO st.heap r with | .map es _ => some es | _ => none)
        | _ => none) with
      | none => none
      | some es => match findKey key es 0 with
        | some (some (_, v)) => some (if ok then .tuple #[v, .bool true] else v)
        | some none => match zeroOf L et with
          | some z => some (if ok then .tuple #[z, .bool false] else z)
          | none => none
        | none => none
    | false => none
  | _ => none

noncomputable def mapUpdate (L : Pg) (st : ISt) (t : TypeId) (m key v : Value) : R :=
  match L.und t, m with
  | some (.map kt _), .map (some r) => match keyKind L kt key, getO st.heap r with
    | true, .map es c => match findKey key es 0 with
      | some (some (i, _)) => .skip (st.with r (.map (setVal v key es i) c))
      | some none => .skip (st.with r (.map (es ++ [{ key, val := v, born := c }]) (Nat.succ c)))
      | none => .fail
    | _, _ => .fail
  | _, _ => .fail

noncomputable def deleteV (L : Pg) (st : ISt) (t : TypeId) (m key : Value) : R :=
  match L.und t, m with
  | some (.map kt _), .map (some r) => match keyKind L kt key, getO st.heap r with
    | true, .map es c => match findKey key es 0 with
      | some (some (i, _)) => .val (.tuple #[]) (st.with r (.map (dropAt es i) c))
      | some none => .val (.tuple #[]) st
      | none => .fail
    | _, _ => .fail
  | _, _ => .fail

noncomputable def clearV (L : Pg) (st : ISt) (t : TypeId) (m : Value) : R :=
  match L.und t, m with
  | some (.slice elem), .slice (some a) n _ => match zeroOf L elem with
    | some z => match n with
      | 0 => .val (.tuple #[]) st
      | _ => match st.store a (List.flatten (List.replicate n (cellsL z))) with
        | some st' => .val (.tuple #[]) st'
        | none => .fail
    | none => .fail
  | _, _ => .fail

noncomputable def inK : IntKind → Nat → Bool :=
  @IntKind.rec (fun _ => Nat → Bool) (fun _ => false) (fun _ => false) (fun n => Nat.blt n 2147483648) (fun n => Nat.blt n 9223372036854775808)
    (fun n => Nat.blt n 256) (fun _ => false) (fun n => Nat.blt n 4294967296) (fun n => Nat.blt n 18446744073709551616)

noncomputable def okK (k : IntKind) (n : Nat) : Option Value := @Bool.rec (fun _ => Option Value) none (some (.int k (.ofNat n))) (inK k n)

noncomputable def iff (b : Bool) (x : Option Value) : Option Value := @Bool.rec (fun _ => Option Value) none x b

noncomputable def same (k k' : IntKind) : Bool := Nat.beq (kindNo k) (kindNo k')

noncomputable def fast2 : BinOp → IntKind → IntKind → Nat → Nat → Option Value :=
  @BinOp.rec (fun _ => IntKind → IntKind → Nat → Nat → Option Value)
    (fun k k' a b => iff (same k k') (okK k (Nat.add a b)))
    (fun k k' a b => iff (same k k') (iff (Nat.ble b a) (okK k (Nat.sub a b))))
    (fun k k' a b => iff (same k k') (okK k (Nat.mul a b)))
    (fun _ _ _ _ => none) (fun _ _ _ _ => none)
    (fun k k' a b => iff (same k k') (iff (inK k a) (iff (inK k b) (okK k (Nat.land a b)))))
    (fun k k' a b => iff (same k k') (iff (inK k a) (iff (inK k b) (okK k (Nat.lor a b)))))
    (fun _ _ _ _ => none)
    (fun k _ a b => iff (Nat.blt b 8) (okK k (Nat.mul a (Nat.pow 2 b))))
    (fun k _ a b => iff (Nat.ble b 63) (iff (same k .u64) (iff (inK k a) (okK k (Nat.div a (Nat.pow 2 b))))))
    (fun _ _ _ _ => none)
    (fun k k' a b => iff (same k k') (some (.bool (Nat.beq a b))))
    (fun k k' a b => iff (same k k') (some (.bool (not (Nat.beq a b)))))
    (fun k k' a b => iff (same k k') (some (.bool (Nat.blt a b))))
    (fun k k' a b => iff (same k k') (some (.bool (Nat.ble a b))))
    (fun k k' a b => iff (same k k') (some (.bool (Nat.blt b a))))
    (fun k k' a b => iff (same k k') (some (.bool (Nat.ble b a))))

noncomputable def natOf : Value → (IntKind → Nat → Option Value) → Option Value :=
  @Value.rec (fun _ => (IntKind → Nat → Option Value) → Option Value) (fun _ => Unit) (fun _ => Unit)
    (fun _ => fun _ => none)
    (fun k n => fun s => @Int.rec (fun _ => Option Value) (fun m => s k m) (fun _ => none) n)
    (fun _ _ => fun _ => none)
    (fun _ _ _ => fun _ => none)
    (fun _ => fun _ => none)
    (fun _ => fun _ => none)
    (fun _ _ _ => fun _ => none)
    (fun _ => fun _ => none)
    (fun _ => fun _ => none)
    (fun _ _ _ _ _ => fun _ => none)
    (fun _ => none)
    (fun _ _ _ => fun _ => none)
    (fun _ => none)
    (fun _ _ => fun _ => none)
    (fun _ _ => fun _ => none)
    (fun _ _ => ()) () (fun _ _ _ _ => ())

noncomputable def fast (op : BinOp) (x y : Value) : Option Value := natOf x (fun k a => natOf y (fun k' b => fast2 op k k' a b))

noncomputable def eqBin : BinOp → Option Bool
  | .eql => some true
  | .neq => some false
  | _ => none

noncomputable def bxor (neg : Bool) (b : Bool) : Value := .bool (match neg with | true => b | false => !b)

noncomputable def eqNil (L : Pg) : TypeDesc → Value → Value → Option Bool
  | .pointer _, .pointer none, .pointer (some _) => some false
  | .pointer _, .pointer (some _), .pointer none => some false
  | .pointer e, .pointer (some a), .pointer (some b) => match szOf L e with
    | some (_ + 1) => match Nat.beq a.block b.block, Nat.beq a.off b.off with
      | true, true => some true
      | _, _ => none
    | _ => none
  | .slice _, .slice none _ _, .slice (some _) _ _ => some false
  | .slice _, .slice (some _) _ _, .slice none _ _ => some false
  | .map _ _, .map none, .map (some _) => some false
  | .map _ _, .map (some _), .map none => some false
  | .func _ _ _, .nilFunc, .func _ _ _ => some false
  | .func _ _ _, .func _ _ _, .nilFunc => some false
  | .interface _, .nilIface, .iface _ _ => some false
  | .interface _, .iface _ _, .nilIface => some false
  | _, _, _ => none

noncomputable def binPure (L : Pg) (op : BinOp) (t : TypeId) (xo yo : Operand) (x y : Value) : Option Value :=
  pureV L.P (do eqGuard op t xo yo x y; Go.binOp op t x y)

noncomputable def binSlow (L : Pg) (op : BinOp) (t : TypeId) (xo yo : Operand) (x y : Value) : Option Value :=
  match flat x, flat y with
  | true, true => binPure L op t xo yo x y
  | _, _ => match eqBin op with
    | none => none
    | some neg => match x, y with
      | .agg xs, .agg ys => match xs.toList.all flat, ys.toList.all flat with
        | true, true => binPure L op t xo yo x y
        | _, _ => none
      | _, _ => match L.und t with
        | none => none
        | some d => match eqNil L d x y with
          | some b => some (bxor neg b)
          | none => none

/-! ## Functions -/

noncomputable def findMethod (L : Pg) (t : TypeId) (name : String) : Option Method :=
  match L.info t with
  | some i => i.methods.toList.find? (·.name == name)
  | none => none

noncomputable def isPtrD : TypeDesc → Bool
  | .pointer _ => true
  | _ => false

/-- a method of a type itself: of a pointer by the pointer, of another one by its value -/
noncomputable def method (L : Pg) (t : TypeId) (name : String) : Option FuncId :=
  match findMethod L t name, L.und t with
  | some m, some d => match m.path.toList, m.func with
    | [], some (f, ptr) => match ptr, isPtrD d with
      | true, true => some f
      | false, false => some f
      | _, _ => none
    | _, _ => none
  | _, _ => none

noncomputable def callFunc (L : Pg) (st : ISt) (f : FuncId) (args : List Value) : R :=
  match getF L.fn f with
  | none => .fail
  | some F => match F.body with
    | some _ => .enter f ⟨args⟩ st
    | none => match args.all flat with
      | true => match pureRun L.P (Go.callFunc f ⟨args⟩) with
        | some (.value v) => .ofV st (okFlat (some v))
        | _ => .fail
      | false => match args, F.name == "internal/abi.NoEscape" with
        | [.pointer (some p)], true => .val (.pointer (some p)) st
        | _, _ => .fail

noncomputable def callMethod (L : Pg) (st : ISt) (recv : Value) (name : String) (args : List Value) : R :=
  match recv with
  | .iface t v => match method L t name with
    | some f => callFunc L st f (v :: args)
    | none => .fail
  | _ => .fail

noncomputable def invokeFn (L : Pg) (st : ISt) (fn : Fn) (captured args : List Value) : R :=
  match fn with
  | .func f => callFunc L st f (args ++ captured)
  | .yield l => .yield l ⟨args⟩ st
  | _ => .fail

noncomputable def bytesOf : List Value → Option (List UInt8)
  | [] => some []
  | v :: l => match v with
    | .int .u8 (.ofNat n) => match bytesOf l with
      | some bs => some (UInt8.ofNat n :: bs)
      | none => none
    | _ => none

/-- is this a row of bytes, and are so many of them there? -/
noncomputable def byteRow (L : Pg) (st : ISt) (pt : TypeId) (a : Addr) (n : Nat) : Bool :=
  match L.und pt, getO st.heap a.block with
  | some (.pointer u), .row _ _ m e _ => match L.und u, szOf L e, Nat.beq u e with
    | some (.int .u8), some 1, true => (Nat.ble (Nat.add a.off n) m).and (Nat.ble n 4294967296)
    | _, _, _ => false
  | _, _ => false

noncomputable def builtinV (L : Pg) (st : ISt) (b : Builtin) (ts : Array TypeId) (type : TypeId) (args : List Value) : R :=
  match b with
  | .append => append L st ts.toList args
  | .len => match ts.toList, args with
    | t :: _, x :: _ => .ofV st (lenV L st t x)
    | _, _ => .fail
  | .delete => match ts.toList, args with
    | t :: _, m :: k :: _ => deleteV L st t m k
    | _, _ => .fail
  | .clear => match ts.toList, args with
    | t :: _, m :: _ => clearV L st t m
    | _, _ => .fail
  | .min => match args.all flat with
    | true => .ofV st (pureV L.P (Builtin.min_ ts type ⟨args⟩))
    | false => .fail
  | .max => match args.all flat with
    | true => .ofV st (pureV L.P (Builtin.max_ ts type ⟨args⟩))
    | false => .fail
  | .unsafeSliceData => match args with
    | [.slice (some a) (_ + 1) (_ + 1)] => .val (.pointer (some a)) st
    | _ => .fail
  | .unsafeString => match args with
    | [.pointer (some a), .int _ (.ofNat (n + 1))] => match ts.toList with
      | pt :: _ => match byteRow L st pt a (n + 1) with
        | true => match st.load a (n + 1) with
          | some l => match bytesOf l with
            | some bs => .val (.string ⟨⟨bs⟩⟩) (st.kill a.block)
            | none => .fail
          | none => .fail
        | false => .fail
      | [] => .fail
    | _ => .fail
  | _ => .fail

noncomputable def mapEv (ρ : Operand → Value) : List (Nat × Operand) → List (Nat × Value)
  | [] => []
  | (i, x) :: l => (i, ρ x) :: mapEv ρ l

noncomputable def evs : List Operand → (Operand → Value) → List Value :=
  @List.rec Operand (fun _ => (Operand → Value) → List Value) (fun _ => []) (fun x _ r ρ => ρ x :: r ρ)

noncomputable def evOpt (ρ : Operand → Value) : Option Operand → Option Value
  | none => none
  | some x => some (ρ x)

noncomputable def missing (L : Pg) (want : Array (String × TypeId)) (t : TypeId) : Option Bool :=
  match L.info t with
  | some i => some ((want.toList.all fun w => i.methods.toList.any fun m => m.name == w.1 && m.sig == w.2).not)
  | none => none

noncomputable def typeAssert (L : Pg) (x : Value) (asserted : TypeId) (ok : Bool) : Option Value :=
  match x with
  | .iface t v =>
    match L.und asserted with
    | some (.interface want) => match missing L want t, ok with
      | some false, true => some (.tuple #[x, .bool true])
      | some false, false => some x
      | some true, true => match zeroOf L asserted with
        | some z => some (.tuple #[z, .bool false])
        | none => none
      | _, _ => none
    | some _ => match Nat.beq t asserted, ok with
      | true, true => some (.tuple #[v, .bool true])
      | true, false => some v
      | false, true => match zeroOf L asserted with
        | some z => some (.tuple #[z, .bool false])
        | none => none
      | false, false => none
    | none => none
  | _ => none

noncomputable def convert (L : Pg) (st : ISt) (src dst : TypeId) (x : Value) : Option Value :=
  match flat x with
  | true => pureV L.P (Go.convert src dst x)
  | false => match L.und src, L.und dst, x with
    | some (.pointer t), some .unsafePointer, .pointer (some a) => match szOf L t, objCell (getO st.heap a.block) a.off with
      | some (_ + 1), some _ => some x
      | _, _ => none
    | some .unsafePointer, some (.pointer u), .pointer (some a) => match szOf L u, getO st.heap a.block, a.off with
      | some (k + 1), .row _ _ n e true, 0 => match Nat.beq e u, Nat.beq n (k + 1) with
        | true, true => some x
        | _, _ => none
      | _, _, _ => none
    | some (.slice e), some .string, .slice (some a) n _ => match L.und e with
      | some (.int .u8) => match n with
        | 0 => some (.string .empty)
        | _ => match st.load a n with
          | some l => match bytesOf l with
            | some bs => some (.string ⟨⟨bs⟩⟩)
            | none => none
          | none => none
      | _ => none
    | _, _, _ => none

noncomputable def zeroRow (L : Pg) (t : TypeId) : Option IObj :=
  match zeroOf L t with
  | some z => some (.row .e (cellsL z) (cellsL z).length t true)
  | none => none

noncomputable def makeSlice (L : Pg) (st : ISt) (t : TypeId) (len cap : Value) : R :=
  match L.und t, len, cap with
  | some (.slice elem), .int _ (.ofNat l), .int _ (.ofNat c) => match Nat.ble l c, Nat.ble c 65536, L.info elem with
    | true, true, some i => match Nat.ble (Nat.mul i.bytes c) 140737488355328, okZero i.zero with
      | true, some z => match st.alloc (.row .e (cellsL z) (Nat.mul c i.size) elem true) with
        | (b, st') => .val (.slice (some ⟨b, 0, none⟩) l c) st'
      | _, _ => .fail
    | _, _, _ => .fail
  | _, _, _ => .fail

noncomputable def iAlloc (L : Pg) (elem : TypeId) (st : ISt) : R :=
  match zeroRow L elem with
  | some o => match st.alloc o with
    | (b, st') => .val (.pointer (some ⟨b, 0, none⟩)) st'
  | none => .fail

noncomputable def iPick : Value → Value → Value → ISt → R :=
  @Value.rec (fun _ => Value → Value → ISt → R) (fun _ => Unit) (fun _ => Unit)
    (fun c => @Bool.rec (fun _ => Value → Value → ISt → R) (fun _ b st => .val b st) (fun a _ st => .val a st) c)
    (fun _ _ => fun _ _ _ => .fail)
    (fun _ _ => fun _ _ _ => .fail)
    (fun _ _ _ => fun _ _ _ => .fail)
    (fun _ => fun _ _ _ => .fail)
    (fun _ => fun _ _ _ => .fail)
    (fun _ _ _ => fun _ _ _ => .fail)
    (fun _ => fun _ _ _ => .fail)
    (fun _ => fun _ _ _ => .fail)
    (fun _ _ _ _ _ => fun _ _ _ => .fail)
    (fun _ _ _ => .fail)
    (fun _ _ _ => fun _ _ _ => .fail)
    (fun _ _ _ => .fail)
    (fun _ _ => fun _ _ _ => .fail)
    (fun _ _ => fun _ _ _ => .fail)
    (fun _ _ => ()) () (fun _ _ _ _ => ())

noncomputable def iBox (elem : TypeId) (v : Value) (st : ISt) : R :=
  @Bool.rec (fun _ => R) (match st.newRow elem (cellsL v) true with
    | (b, st') => .val (.pointer (some ⟨b, 0, none⟩)) st') .fail (isTup v)

noncomputable def iLoad (L : Pg) (t : TypeId) (a : Value) (st : ISt) : R :=
  @Option.rec Addr (fun _ => R) .fail (fun a => .ofV st (loadVar L st t a)) (ptrOf a)

noncomputable def iStore (L : Pg) (t : TypeId) (a v : Value) (st : ISt) : R :=
  @Option.rec Addr (fun _ => R) .fail (fun a => .ofS (storeVar L st t a v)) (ptrOf a)

noncomputable def nilFn : Fn → Array Value → Array Value → ISt → R :=
  @Fn.rec (fun _ => Array Value → Array Value → ISt → R) (fun f a b st => .val (.func (.func f) a b) st) (fun _ _ _ _ => .fail)
    (fun t n a b st => .val (.func (.methodOf t n) a b) st) (fun t p f q a b st => .val (.func (.via t p f q) a b) st) (fun l a b st => .val (.func (.yield l) a b) st)

noncomputable def iMakeFn (f : Fn) (a b : Array Value) (st : ISt) : R :=
  match f with
  | .yield _ => .fail
  | _ => .val (.func f a b) st

noncomputable def iNil : Value → ISt → R :=
  @Value.rec (fun _ => ISt → R) (fun _ => Unit) (fun _ => Unit)
    (fun _ => fun _ => .fail)
    (fun _ _ => fun _ => .fail)
    (fun _ _ => fun _ => .fail)
    (fun _ _ _ => fun _ => .fail)
    (fun _ => fun _ => .fail)
    (fun a => fun st => @Option.rec Addr (fun _ => R) .fail (fun a => .val (.pointer (some a)) st) a)
    (fun _ _ _ => fun _ => .fail)
    (fun _ => fun _ => .fail)
    (fun _ => fun _ => .fail)
    (fun f a b _ _ => fun st => nilFn f a b st)
    (fun _ => .fail)
    (fun t v _ => fun st => .val (.iface t v) st)
    (fun _ => .fail)
    (fun _ _ => fun _ => .fail)
    (fun _ _ => fun _ => .fail)
    (fun _ _ => ()) () (fun _ _ _ _ => ())

noncomputable def iBin (L : Pg) (op : BinOp) (t : TypeId) (xo yo : Operand) (x y : Value) (st : ISt) : R :=
  @Option.rec Value (fun _ => R) (.ofV st (binSlow L op t xo yo x y)) (fun v => .val v st) (fast op x y)

noncomputable def iUn (L : Pg) (op : UnOp) (x : Value) (st : ISt) : R :=
  match flat x with
  | true => .ofV st (pureV L.P (Op.unary op x))
  | false => .fail

noncomputable def iIface (L : Pg) (t : TypeId) (x : Value) (st : ISt) : R :=
  match L.und t with
  | some (.interface _) => .fail
  | some _ => .val (.iface t x) st
  | none => .fail

noncomputable def iMap (r : Option Value) (st : ISt) : R :=
  match r with
  | none => match st.alloc (.map [] 0) with
    | (b, st') => .val (.map (some b)) st'
  | some _ => .fail

noncomputable def offOf (L : Pg) (s : TypeId) (f : Nat) : Option Nat :=
  match fieldOf L s f with
  | some fd => match szOf L fd.type with
    | some (_ + 1) => some fd.offset
    | _ => none
  | none => none

noncomputable def iFieldAddr (L : Pg) (s : TypeId) (f : Nat) (x : Value) (st : ISt) : R :=
  @Option.rec Nat (fun _ => R) .fail (fun n => @Option.rec Addr (fun _ => R) .fail (fun a => .val (.pointer (some (addA a n))) st) (ptrOf x)) (offOf L s f)

noncomputable def iField (L : Pg) (t : TypeId) (f : Nat) (x : Value) (st : ISt) : R :=
  match fieldOf L t f, x with
  | some fd, .agg cs => .ofV st (part L fd.type cs.toList fd.offset)
  | _, _ => .fail

noncomputable def iExt : Value → Nat → ISt → R :=
  @Value.rec (fun _ => Nat → ISt → R) (fun _ => Unit) (fun _ => Unit)
    (fun _ => fun _ _ => .fail)
    (fun _ _ => fun _ _ => .fail)
    (fun _ _ => fun _ _ => .fail)
    (fun _ _ _ => fun _ _ => .fail)
    (fun _ => fun _ _ => .fail)
    (fun _ => fun _ _ => .fail)
    (fun _ _ _ => fun _ _ => .fail)
    (fun _ => fun _ _ => .fail)
    (fun _ => fun _ _ => .fail)
    (fun _ _ _ _ _ => fun _ _ => .fail)
    (fun _ _ => .fail)
    (fun _ _ _ => fun _ _ => .fail)
    (fun _ _ => .fail)
    (fun _ _ => fun _ _ => .fail)
    (fun vs _ => fun i st => .ofV st (nthV vs.toList i))
    (fun _ _ => ()) () (fun _ _ _ _ => ())

noncomputable def callV (L : Pg) (f : Value) (args : List Value) (st : ISt) : R :=
  match f with
  | .func fn first captured => invokeFn L st fn captured.toList (first.toList ++ args)
  | _ => .fail

noncomputable def iCall (L : Pg) (c : Call) (type : TypeId) (ρ : Operand → Value) (st : ISt) : R :=
  match c.callee with
  | .builtin b => builtinV L st b c.argTypes type (evs c.args.toList ρ)
  | .invoke recv name => callMethod L st (ρ recv) name (evs c.args.toList ρ)
  | .value f => callV L (ρ f) (evs c.args.toList ρ) st

noncomputable def deferV (f : Value) (args : List Value) : R :=
  match f with
  | .func fn first captured => .defer (.call fn captured ⟨first.toList ++ args⟩)
  | _ => .fail

noncomputable def iDefer (c : Call) (ρ : Operand → Value) : R :=
  match c.callee with
  | .value f => deferV (ρ f) (evs c.args.toList ρ)
  | _ => .fail

/-- one operation -/
noncomputable def iop : Op → Pg → TypeId → (Operand → Value) → ISt → R :=
  @Op.rec (fun _ => Pg → TypeId → (Operand → Value) → ISt → R)
    (fun x => fun _ _ ρ st => .val (ρ x) st)
    (fun x => fun _ _ ρ st => .val (ρ x) st)
    (fun c a b => fun _ _ ρ st => iPick (ρ c) (ρ a) (ρ b) st)
    (fun t => fun L _ _ st => iAlloc L t st)
    (fun t x => fun _ _ ρ st => iBox t (ρ x) st)
    (fun t ps => fun L _ ρ st => .ofV st (build L t (mapEv ρ ps.toList)))
    (fun t n ps => fun L _ ρ st => buildSlice L st t n (mapEv ρ ps.toList))
    (fun t m k x => fun L _ ρ st => mapUpdate L st t (ρ m) (ρ k) (ρ x))
    (fun t a => fun L _ ρ st => iLoad L t (ρ a) st)
    (fun t a x => fun L _ ρ st => iStore L t (ρ a) (ρ x) st)
    (fun _ => fun _ _ _ _ => .fail)
    (fun _ => fun _ _ _ _ => .fail)
    (fun x => fun _ _ ρ st => iNil (ρ x) st)
    (fun op t x y _ => fun L _ ρ st => iBin L op t x y (ρ x) (ρ y) st)
    (fun op _ x => fun L _ ρ st => iUn L op (ρ x) st)
    (fun s d x => fun L _ ρ st => .ofV st (convert L st s d (ρ x)))
    (fun _ _ => fun _ _ _ _ => .fail)
    (fun t x => fun L _ ρ st => iIface L t (ρ x) st)
    (fun f a b => fun _ _ ρ st => iMakeFn f ⟨evs a.toList ρ⟩ ⟨evs b.toList ρ⟩ st)
    (fun _ r => fun _ _ ρ st => iMap (evOpt ρ r) st)
    (fun _ _ => fun _ _ _ _ => .fail)
    (fun t l c => fun L _ ρ st => makeSlice L st t (ρ l) (ρ c))
    (fun t x lo hi mx => fun L _ ρ st => .ofV st (sliceV L t (ρ x) (evOpt ρ lo) (evOpt ρ hi) (evOpt ρ mx)))
    (fun s x f => fun L _ ρ st => iFieldAddr L s f (ρ x) st)
    (fun t x f => fun L _ ρ st => iField L t f (ρ x) st)
    (fun t x i => fun L _ ρ st => iIaddr L t (ρ x) (ρ i) st)
    (fun t x i => fun L _ ρ st => .ofV st (indexV L t (ρ x) (ρ i)))
    (fun t x i ok => fun L _ ρ st => .ofV st (lookup L st t (ρ x) (ρ i) ok))
    (fun t m k x => fun L _ ρ st => mapUpdate L st t (ρ m) (ρ k) (ρ x))
    (fun _ _ _ => fun _ _ _ _ => .fail)
    (fun _ _ _ _ => fun _ _ _ _ => .fail)
    (fun _ _ => fun _ _ _ _ => .fail)
    (fun _ _ => fun _ _ _ _ => .fail)
    (fun _ => fun _ _ _ _ => .fail)
    (fun x _ t ok => fun L _ ρ st => .ofV st (typeAssert L (ρ x) t ok))
    (fun t i => fun _ _ ρ st => iExt (ρ t) i st)
    (fun c => fun L ty ρ st => iCall L c ty ρ st)
    (fun _ => fun _ _ _ _ => .fail)
    (fun c => fun _ _ ρ _ => iDefer c ρ)
    (fun _ => fun _ _ _ _ => .fail)
    (fun _ _ => fun _ _ _ _ => .fail)
    (fun _ _ _ => fun _ _ _ _ => .fail)
    (fun _ _ => fun _ _ _ _ => .fail)

/-! ## A region's operations, made ready -/

/-- where an operand's value is found: so many operations back, in a slot, or it is known -/
inductive Rd where
  | loc (k : Nat) | var (t : Nat) | con (v : Value)

noncomputable def evR : Rd → List Value → T Value → Value :=
  @Rd.rec (fun _ => List Value → T Value → Value) (fun k env _ => nthU env k) (fun t _ tm => getV tm t) (fun v _ _ => v)

noncomputable def dstOf (ops : Array Oper) (j : Nat) : Option Tmp :=
  match ops[j]? with
  | some o => o.dst
  | none => none

noncomputable def isB : Value → Bool → Bool :=
  @Value.rec (fun _ => Bool → Bool) (fun _ => Unit) (fun _ => Unit)
    (fun b => @Bool.rec (fun _ => Bool → Bool) not (fun w => w) b)
    (fun _ _ => fun _ => false)
    (fun _ _ => fun _ => false)
    (fun _ _ _ => fun _ => false)
    (fun _ => fun _ => false)
    (fun _ => fun _ => false)
    (fun _ _ _ => fun _ => false)
    (fun _ => fun _ => false)
    (fun _ => fun _ => false)
    (fun _ _ _ _ _ => fun _ => false)
    (fun _ => false)
    (fun _ _ _ => fun _ => false)
    (fun _ => false)
    (fun _ _ => fun _ => false)
    (fun _ _ => fun _ => false)
    (fun _ _ => ()) () (fun _ _ _ _ => ())

/-- what a slot holds, as far as it is known ahead -/
inductive Src where
  | no | lv (p : Nat) | var (t ver : Nat) | con (v : Value)

noncomputable def getA : T Src → Nat → Src :=
  @T.rec Src (fun _ => Nat → Src) (fun _ => .no)
    (fun _ v _ gl gr i => @Nat.rec (fun _ => Src) v (fun j _ => @Nat.rec (fun _ => Src) (gl (Nat.div j 2)) (fun _ _ => gr (Nat.div j 2)) (Nat.mod j 2)) i)

noncomputable def oneA : Nat → Nat → Src → T Src :=
  @Nat.rec (fun _ => Nat → Src → T Src) (fun _ _ => .e)
    (fun _ ih i a => @Nat.rec (fun _ => T Src) (.n .e a .e) (fun j _ => @Nat.rec (fun _ => T Src) (.n (ih (Nat.div j 2) a) .no .e) (fun _ _ => .n .e .no (ih (Nat.div j 2) a)) (Nat.mod j 2)) i)

noncomputable def setA : T Src → Nat → Src → T Src :=
  @T.rec Src (fun _ => Nat → Src → T Src) (fun i a => oneA (Nat.succ i) i a)
    (fun l v r sl sr i a => @Nat.rec (fun _ => T Src) (.n l a r) (fun j _ => @Nat.rec (fun _ => T Src) (.n (sl (Nat.div j 2) a) v r) (fun _ _ => .n l v (sr (Nat.div j 2) a)) (Nat.mod j 2)) i)

noncomputable def getN : T Nat → Nat → Nat :=
  @T.rec Nat (fun _ => Nat → Nat) (fun _ => 0)
    (fun _ v _ gl gr i => @Nat.rec (fun _ => Nat) v (fun j _ => @Nat.rec (fun _ => Nat) (gl (Nat.div j 2)) (fun _ _ => gr (Nat.div j 2)) (Nat.mod j 2)) i)

noncomputable def oneN : Nat → Nat → Nat → T Nat :=
  @Nat.rec (fun _ => Nat → Nat → T Nat) (fun _ _ => .e)
    (fun _ ih i a => @Nat.rec (fun _ => T Nat) (.n .e a .e) (fun j _ => @Nat.rec (fun _ => T Nat) (.n (ih (Nat.div j 2) a) 0 .e) (fun _ _ => .n .e 0 (ih (Nat.div j 2) a)) (Nat.mod j 2)) i)

noncomputable def setN : T Nat → Nat → Nat → T Nat :=
  @T.rec Nat (fun _ => Nat → Nat → T Nat) (fun i a => oneN (Nat.succ i) i a)
    (fun l v r sl sr i a => @Nat.rec (fun _ => T Nat) (.n l a r) (fun j _ => @Nat.rec (fun _ => T Nat) (.n (sl (Nat.div j 2) a) v r) (fun _ _ => .n l v (sr (Nat.div j 2) a)) (Nat.mod j 2)) i)

structure Cst where
  am : T Src
  vr : T Nat
  d : Nat

noncomputable def lives (S t : Nat) : Bool := (Nat.blt t (Nat.log2 S)).and (Nat.testBit S t)

noncomputable def valid (C : Cst) : Src → Bool
  | .no => false
  | .lv _ => true
  | .var t v => Nat.beq (getN C.vr t) v
  | .con _ => true

noncomputable def slotS (S : Nat) (C : Cst) (t : Tmp) : Src :=
  match valid C (getA C.am t) with
  | true => getA C.am t
  | false => match lives S t with
    | true => .var t (getN C.vr t)
    | false => .no

noncomputable def rdOf (C : Cst) : Src → Option Rd
  | .no => none
  | .lv p => some (.loc (Nat.sub (Nat.sub C.d 1) p))
  | .var t _ => some (.var t)
  | .con v => some (.con v)

/-- so many variables of the package level are there -/
def NG : Nat := 6

noncomputable def opS (S : Nat) (C : Cst) : Operand → Src
  | .tmp t => slotS S C t
  | .const v => match okZ v with
    | true => .con v
    | false => .no
  | .global g => match Nat.blt g NG with
    | true => .con (.pointer (some ⟨g, 0, none⟩))
    | false => .no
  | .func f => .con (.func (.func f) #[] #[])

noncomputable def opR (S : Nat) (C : Cst) (x : Operand) : Option Rd := rdOf C (opS S C x)

noncomputable def evC (S : Nat) (C : Cst) (env : List Value) (tm : T Value) (x : Operand) : Value :=
  @Option.rec Rd (fun _ => Value) undef (fun r => evR r env tm) (opR S C x)

inductive Cmd where
  | mv (x : Rd)
  | load1 (x : Rd)
  | store1 (a x : Rd)
  | faddr (n : Nat) (x : Rd)
  | nil (x : Rd)
  | bin (op : BinOp) (t : TypeId) (xo yo : Operand) (x y : Rd)
  | pick (c a b : Rd)
  | iaddrS (k : Nat) (x i : Rd)
  | iaddrA (len k : Nat) (x i : Rd)
  | ext (i : Nat) (x : Rd)
  | box (elem : TypeId) (x : Rd)
  | lenS (x : Rd)
  | call (f : FuncId) (xs : List Rd)
  | gen (o : Op) (ty : TypeId) (S : Nat) (C : Cst)
  | grd (x : Rd) (w : Bool) (c : Cmd)

noncomputable def rds (S : Nat) (C : Cst) : List Operand → Option (List Rd)
  | [] => some []
  | x :: l => match opR S C x, rds S C l with
    | some r, some rs => some (r :: rs)
    | _, _ => none

noncomputable def okGen (S : Nat) (C : Cst) (o : Op) : Bool :=
  match rds S C o.operands.toList with
  | some _ => true
  | none => false

noncomputable def gen (S : Nat) (C : Cst) (o : Op) (ty : TypeId) : Option Cmd :=
  match okGen S C o with
  | true => some (.gen o ty S C)
  | false => none

noncomputable def compOp (L : Pg) (S : Nat) (C : Cst) (o : Op) (ty : TypeId) : Option Cmd :=
  match o with
  | .move x => match opR S C x with
    | some x => some (.mv x)
    | none => none
  | .assign x => match opR S C x with
    | some x => some (.mv x)
    | none => none
  | .load t a => match aggOf L t, opR S C a with
    | some false, some a => some (.load1 a)
    | _, _ => gen S C o ty
  | .store t a x => match aggOf L t, szOf L t, opR S C a, opR S C x with
    | some false, some 1, some a, some x => some (.store1 a x)
    | _, _, _, _ => gen S C o ty
  | .fieldAddr s x f => match offOf L s f, opR S C x with
    | some n, some x => some (.faddr n x)
    | _, _ => none
  | .nilCheck x => match opR S C x with
    | some x => some (.nil x)
    | none => none
  | .binOp op t x y _ => match opR S C x, opR S C y with
    | some a, some b => some (.bin op t x y a b)
    | _, _ => none
  | .pick c a b => match opR S C c, opR S C a, opR S C b with
    | some c, some a, some b => some (.pick c a b)
    | _, _, _ => none
  | .indexAddr t x i => match opR S C x, opR S C i with
    | some x, some i => match L.und t with
      | some (.slice elem) => match szOf L elem with
        | some k => some (.iaddrS k x i)
        | none => none
      | some (.array len elem) => match szOf L elem with
        | some k => some (.iaddrA len k x i)
        | none => none
      | _ => none
    | _, _ => none
  | .extract x i => match opR S C x with
    | some x => some (.ext i x)
    | none => none
  | .box elem x => match opR S C x with
    | some x => some (.box elem x)
    | none => none
  | .call c => match c.callee with
    | .value (.func f) => match getF L.fn f, rds S C c.args.toList with
      | some F, some xs => match F.body with
        | some _ => some (.call f xs)
        | none => gen S C o ty
      | _, _ => none
    | .builtin .len => match c.argTypes.toList, rds S C c.args.toList with
      | t :: _, some (x :: _) => match L.und t with
        | some (.slice _) => some (.lenS x)
        | _ => gen S C o ty
      | _, _ => none
    | _ => gen S C o ty
  | _ => gen S C o ty

noncomputable def iLenS : Value → ISt → R :=
  @Value.rec (fun _ => ISt → R) (fun _ => Unit) (fun _ => Unit)
    (fun _ => fun _ => .fail)
    (fun _ _ => fun _ => .fail)
    (fun _ _ => fun _ => .fail)
    (fun _ _ _ => fun _ => .fail)
    (fun _ => fun _ => .fail)
    (fun _ => fun _ => .fail)
    (fun _ n _ => fun st => .val (.int .i64 (.ofNat n)) st)
    (fun _ => fun _ => .fail)
    (fun _ => fun _ => .fail)
    (fun _ _ _ _ _ => fun _ => .fail)
    (fun _ => .fail)
    (fun _ _ _ => fun _ => .fail)
    (fun _ => .fail)
    (fun _ _ => fun _ => .fail)
    (fun _ _ => fun _ => .fail)
    (fun _ _ => ()) () (fun _ _ _ _ => ())

noncomputable def iLoad1 (v : Value) (st : ISt) : R :=
  @Option.rec Addr (fun _ => R) .fail (fun a => .ofV st (objCell (getO st.heap a.block) a.off)) (ptrOf v)

noncomputable def iStore1 (a v : Value) (st : ISt) : R :=
  @Option.rec Addr (fun _ => R) .fail (fun a => .ofS (st.store1 a v)) (ptrOf a)

noncomputable def evRs : List Rd → List Value → T Value → List Value :=
  @List.rec Rd (fun _ => List Value → T Value → List Value) (fun _ _ => []) (fun x _ r env tm => evR x env tm :: r env tm)

noncomputable def doCmd : Cmd → Pg → List Value → T Value → ISt → R :=
  @Cmd.rec (fun _ => Pg → List Value → T Value → ISt → R)
    (fun x _ env tm st => .val (evR x env tm) st)
    (fun x _ env tm st => iLoad1 (evR x env tm) st)
    (fun a x _ env tm st => iStore1 (evR a env tm) (evR x env tm) st)
    (fun n x _ env tm st => @Option.rec Addr (fun _ => R) .fail (fun a => .val (.pointer (some (addA a n))) st) (ptrOf (evR x env tm)))
    (fun x _ env tm st => iNil (evR x env tm) st)
    (fun op t xo yo x y L env tm st => iBin L op t xo yo (evR x env tm) (evR y env tm) st)
    (fun c a b _ env tm st => iPick (evR c env tm) (evR a env tm) (evR b env tm) st)
    (fun k x i _ env tm st => iIaddrS k (evR x env tm) (evR i env tm) st)
    (fun n k x i _ env tm st => iIaddrA n k (evR x env tm) (evR i env tm) st)
    (fun i x _ env tm st => iExt (evR x env tm) i st)
    (fun t x _ env tm st => iBox t (evR x env tm) st)
    (fun x _ env tm st => iLenS (evR x env tm) st)
    (fun f xs _ env tm st => .enter f ⟨evRs xs env tm⟩ st)
    (fun o ty S C L env tm st => iop o L ty (evC S C env tm) st)
    (fun x w _ r L env tm st => @Bool.rec (fun _ => R) (.skip st) (r L env tm st) (isB (evR x env tm) w))

inductive Ins where
  | done | bad
  | push (c : Cmd) (r : Ins)
  | keep (c : Cmd) (t : Tmp) (r : Ins)
  | set (t : Tmp) (x : Rd) (r : Ins)

noncomputable def compG (L : Pg) (S : Nat) (C : Cst) (ops : Array Oper) (o : Oper) : Option Cmd :=
  match o.guard with
  | none => compOp L S C o.op o.type
  | some (j, w) => match dstOf ops j with
    | none => none
    | some d => match rdOf C (slotS S C d), compOp L S C o.op o.type with
      | some x, some c => some (.grd x w c)
      | _, _ => none

noncomputable def moves (o : Oper) : Option Operand :=
  match o.guard with
  | none => match o.op with
    | .move x | .assign x => some x
    | _ => none
  | some _ => none

noncomputable def bump (C : Cst) (t : Tmp) : T Nat := setN C.vr t (Nat.succ (getN C.vr t))

noncomputable def compL (L : Pg) (S : Nat) (ops : Array Oper) : List Oper → Cst → Ins
  | [], _ => .done
  | o :: l, C => match moves o with
    | some x => match o.dst with
      | none => .bad
      | some d => match Nat.blt d (Nat.log2 S), rdOf C (opS S C x) with
        | true, some r => match lives S d with
          | true => .set d r (compL L S ops l ⟨setA C.am d (opS S C x), bump C d, C.d⟩)
          | false => compL L S ops l ⟨setA C.am d (opS S C x), C.vr, C.d⟩
        | _, _ => .bad
    | none => match compG L S C ops o with
      | none => .bad
      | some c => match o.dst with
        | none => .push c (compL L S ops l ⟨C.am, C.vr, Nat.succ C.d⟩)
        | some d => match Nat.blt d (Nat.log2 S) with
          | false => .bad
          | true => match lives S d with
            | true => .keep c d (compL L S ops l ⟨setA C.am d (.lv C.d), bump C d, Nat.succ C.d⟩)
            | false => .push c (compL L S ops l ⟨setA C.am d (.lv C.d), C.vr, Nat.succ C.d⟩)

noncomputable def C0 : Cst := ⟨.e, .e, 0⟩

noncomputable def resultsI (L : Pg) (S : Nat) (st : ISt) (tm : T Value) : List ResultVar → Option (List Value)
  | [] => some []
  | r :: rs => match (match r with
      | .tmp t => (match lives S t with
        | true => some (getV tm t)
        | false => none)
      | .cell a t => (match lives S a, getV tm a with
        | true, .pointer (some a) => loadVar L st t a
        | _, _ => none)) with
    | none => none
    | some v => match resultsI L S st tm rs with
      | some l => some (v :: l)
      | none => none

noncomputable def tupleOf : List Value → Value
  | [v] => v
  | l => .tuple ⟨l⟩

noncomputable def setParams (t : T Value) : List Tmp → List Value → T Value
  | p :: ps, v :: vs => setParams (setV t p v) ps vs
  | _, _ => t

noncomputable def jumpOf : Exit → Option Code
  | .normal => none
  | .ret => some .ret
  | .exit id => some (.exit id)
  | .goto l => some (.goto l)

noncomputable def exitOf : Option Code → Option Exit
  | none => some .normal
  | some .ret => some .ret
  | some (.exit id) => some (.exit id)
  | some (.goto l) => some (.goto l)
  | some _ => none

/-! ## Regions that draw their order -/

inductive Cls where
  | p | q | a | f

/-- p: looks at no memory; q: reads; a: makes a block; f: whatever else -/
noncomputable def cls : Op → Cls
  | .move _ | .assign _ | .pick .. | .build .. | .nilCheck _ | .binOp .. | .unOp .. | .makeInterface .. | .makeFunc .. | .fieldAddr .. | .field ..
  | .indexAddr .. | .index .. | .typeAssert .. | .extract .. | .slice .. => .p
  | .load .. | .lookup .. | .convert .. => .q
  | .alloc _ | .box .. | .buildSlice .. | .makeMap .. | .makeSlice .. => .a
  | .call c => match c.callee with
    | .builtin .len => .q
    | .builtin .min | .builtin .max | .builtin .unsafeSliceData => .p
    | _ => .f
  | _ => .f

structure Item where
  i : Nat
  m : Nat
  o : Oper
  c : Cls
  chk : List Nat

/-- the masks of what stands before each operation, whatever the order -/
noncomputable def maskOf (acc : List Nat) : List Edge → Nat
  | [] => 0
  | e :: es => match Region.binds .any e with
    | true => Nat.lor (Nat.lor (Nat.pow 2 e.on) (match nth acc e.on with | some m => m | none => 0)) (maskOf acc es)
    | false => maskOf acc es

noncomputable def masks (acc : List Nat) : List Oper → List Nat
  | [] => acc
  | o :: l => masks (acc ++ [maskOf acc o.after.toList]) l

noncomputable def bit (m i : Nat) : Bool := match Nat.land (Nat.div m (Nat.pow 2 i)) 1 with | 0 => false | _ => true

noncomputable def isF : Cls → Bool
  | .f => true
  | _ => false

/-- those of a mask that are not done yet, in the order of the text -/
noncomputable def pend (m done : Nat) : (k i : Nat) → List Nat
  | 0, _ => []
  | k + 1, i => match bit m i, bit done i with
    | true, false => i :: pend m done k (Nat.succ i)
    | _, _ => pend m done k (Nat.succ i)

noncomputable def orAll (d : Nat) : List Nat → Nat
  | [] => d
  | i :: l => orAll (Nat.lor d (Nat.pow 2 i)) l

/-- an order: for each operation with an effect first what it hangs on, then itself; then all others -/
noncomputable def orderF (ms : List Nat) (n : Nat) : List Oper → (i done : Nat) → List Nat
  | [], _, done => pend (Nat.sub (Nat.pow 2 n) 1) done n 0
  | o :: l, i, done => match isF (cls o.op) with
    | true => (match nth ms i with
      | some m => (fun new => new ++ i :: orderF ms n l (Nat.succ i) (orAll (Nat.lor done (Nat.pow 2 i)) new)) (pend m done n 0)
      | none => [])
    | false => orderF ms n l (Nat.succ i) done

noncomputable def checks (ms : List Nat) (i : Nat) (m : Nat) : List Nat → Nat → List Nat
  | [], _ => []
  | e :: es, k => match bit m e with
    | true => checks ms i m es (Nat.succ k)
    | false => k :: checks ms i m es (Nat.succ k)

/-- the items; `fs`: the effects so far -/
noncomputable def items (ops : List Oper) (ms : List Nat) : List Nat → List Nat → List Item
  | [], _ => []
  | i :: l, fs => match nth ops i, nth ms i with
    | some o, some m => match cls o.op with
      | .p => ⟨i, m, o, .p, checks ms i m fs 0⟩ :: items ops ms l fs
      | .q => ⟨i, m, o, .q, checks ms i m fs 0⟩ :: items ops ms l fs
      | .a => ⟨i, m, o, .a, []⟩ :: items ops ms l fs
      | .f => ⟨i, m, o, .f, []⟩ :: items ops ms l (fs ++ [i])
    | _, _ => []

noncomputable def plan (ops : Array Oper) : List Item :=
  (fun ms => items ops.toList ms (orderF ms ops.toList.length ops.toList 0 0) []) (masks [] ops.toList)

/-! .. what a plan has to be -/

noncomputable def memN (x : Nat) : List Nat → Bool
  | [] => false
  | y :: l => match Nat.beq x y with
    | true => true
    | false => memN x l

/-- the slots that an operation names, but for its own -/
noncomputable def looks (ops : Array Oper) (o : Oper) : List Tmp :=
  (o.op.operands.toList.filterMap fun | .tmp t => some t | _ => none) ++
  (match o.guard with
   | some (g, _) => (match dstOf ops g with | some d => [d] | none => [])
   | none => [])

noncomputable def optMem (d : Option Tmp) (l : List Tmp) : Bool :=
  match d with
  | some d => memN d l
  | none => false

noncomputable def optSame (d e : Option Tmp) : Bool :=
  match d, e with
  | some d, some e => Nat.beq d e
  | _, _ => false

/-- y stands before x: where one of them writes what the other names, x hangs on y -/
noncomputable def slotsOk (ops : Array Oper) (x : Item) : List Item → Bool
  | [] => true
  | y :: l => match bit x.m y.i with
    | true => slotsOk ops x l
    | false => match optMem y.o.dst (looks ops x.o), optMem x.o.dst (looks ops y.o), optSame x.o.dst y.o.dst with
      | false, false, false => slotsOk ops x l
      | _, _, _ => false

/-- each effect that x doesn't hang on is among its checks -/
noncomputable def chkOk (x : Item) : List Nat → Nat → Bool
  | [], _ => true
  | e :: es, k => match bit x.m e with
    | true => chkOk x es (Nat.succ k)
    | false => match memN k x.chk with
      | true => chkOk x es (Nat.succ k)
      | false => false

/-- xs: what stands before; pm: its mask; fs: the effects among it -/
noncomputable def okItem (ops : Array Oper) (ms : List Nat) (x : Item) (xs : List Item) (pm : Nat) (fs : List Nat) : Bool :=
  match Nat.blt x.i ops.size, bit pm x.i, Nat.beq (maskOf ms x.o.after.toList) x.m, Nat.beq (Nat.land x.m pm) x.m, slotsOk ops x xs with
  | true, false, true, true, true => match x.c with
    | .f => Nat.beq (Nat.land pm x.m) pm
    | .a => true
    | _ => chkOk x fs 0
  | _, _, _, _, _ => false

noncomputable def addF (x : Item) (fs : List Nat) : List Nat :=
  match x.c with
  | .f => fs ++ [x.i]
  | _ => fs

noncomputable def okItems (ops : Array Oper) (ms : List Nat) : List Item → List Item → Nat → List Nat → Bool
  | [], _, pm, _ => Nat.beq pm (Nat.sub (Nat.pow 2 ops.size) 1)
  | x :: l, xs, pm, fs => match okItem ops ms x xs pm fs with
    | true => okItems ops ms l (x :: xs) (Nat.lor pm (Nat.pow 2 x.i)) (addF x fs)
    | false => false

noncomputable def okPlan (ops : Array Oper) (pl : List Item) : Bool := okItems ops (masks [] ops.toList) pl [] 0 []

/-- so many numbers are kept for the blocks that such a region makes -/
noncomputable def resv (n : Nat) : List Item → Nat
  | [] => 0
  | x :: l => match x.c with
    | .a => n
    | _ => resv n l

noncomputable def keepN (st : ISt) : Nat → ISt := @Nat.rec (fun _ => ISt) st (fun m _ => ⟨st.heap, Nat.add st.next (Nat.succ m)⟩)

noncomputable def sameBool : Bool → Bool → Bool := @Bool.rec (fun _ => Bool → Bool) not (fun b => b)

noncomputable def addrEq (a b : Addr) : Bool :=
  match a.spot, b.spot with
  | none, none => match Nat.beq a.block b.block with
    | true => Nat.beq a.off b.off
    | false => false
  | _, _ => false

noncomputable def fnEq : Fn → Fn → Bool
  | .func f, .func g => Nat.beq f g
  | .yield l, .yield m => Nat.beq l m
  | _, _ => false

mutual
noncomputable def veq : Nat → Value → Value → Bool
  | 0, _, _ => false
  | n + 1, a, b => match a, b with
    | .bool x, .bool y => sameBool x y
    | .int k x, .int k' y => match Nat.beq (kindNo k) (kindNo k') with
      | true => intEq x y
      | false => false
    | .string s, .string t => bytesEq s.data.toList t.data.toList
    | .pointer none, .pointer none => true
    | .pointer (some x), .pointer (some y) => addrEq x y
    | .slice none l c, .slice none l' c' => match Nat.beq l l' with
      | true => Nat.beq c c'
      | false => false
    | .slice (some x) l c, .slice (some y) l' c' => match addrEq x y, Nat.beq l l' with
      | true, true => Nat.beq c c'
      | _, _ => false
    | .map none, .map none => true
    | .map (some r), .map (some r') => Nat.beq r r'
    | .nilFunc, .nilFunc => true
    | .func f x y, .func g x' y' => match fnEq f g, veqs n x.toList x'.toList with
      | true, true => veqs n y.toList y'.toList
      | _, _ => false
    | .iface t v, .iface t' v' => match Nat.beq t t' with
      | true => veq n v v'
      | false => false
    | .nilIface, .nilIface => true
    | .agg x, .agg y => veqs n x.toList y.toList
    | .tuple x, .tuple y => veqs n x.toList y.toList
    | _, _ => false
noncomputable def veqs : Nat → List Value → List Value → Bool
  | 0, _, _ => false
  | n + 1, l, m => match l, m with
    | [], [] => true
    | a :: l, b :: m => match veq n a b with
      | true => veqs n l m
      | false => false
    | _, _ => false
end

/-! .. made ready: those that draw -/

inductive PIns where
  | done | bad
  | q (c : Cmd) (t : Option Tmp) (chk : List Nat) (r : PIns)
  | f (c : Cmd) (t : Option Tmp) (r : PIns)
  | set (t : Tmp) (x : Rd) (r : PIns)
  | a (c : Cmd) (t : Option Tmp) (i : Nat) (r : PIns)

noncomputable def keepP (S : Nat) (d : Option Tmp) : Option Tmp :=
  match d with
  | none => none
  | some d => match lives S d with
    | true => some d
    | false => none

noncomputable def nextC (S : Nat) (C : Cst) (d : Option Tmp) : Cst :=
  match d with
  | none => ⟨C.am, C.vr, Nat.succ C.d⟩
  | some d => ⟨setA C.am d (.lv C.d), (match lives S d with | true => bump C d | false => C.vr), Nat.succ C.d⟩

noncomputable def inFrame (S : Nat) : Option Tmp → Bool
  | none => true
  | some d => Nat.blt d (Nat.log2 S)

noncomputable def compP (L : Pg) (S : Nat) (ops : Array Oper) : List Item → Cst → PIns
  | [], _ => .done
  | x :: l, C => match moves x.o with
    | some y => match x.o.dst with
      | none => .bad
      | some d => match Nat.blt d (Nat.log2 S), rdOf C (opS S C y) with
        | true, some r => match lives S d with
          | true => .set d r (compP L S ops l ⟨setA C.am d (opS S C y), bump C d, C.d⟩)
          | false => compP L S ops l ⟨setA C.am d (opS S C y), C.vr, C.d⟩
        | _, _ => .bad
    | none => match compG L S C ops x.o, inFrame S x.o.dst with
      | some c, true => match x.c with
        | .f => .f c (keepP S x.o.dst) (compP L S ops l (nextC S C x.o.dst))
        | .a => .a c (keepP S x.o.dst) x.i (compP L S ops l (nextC S C x.o.dst))
        | _ => .q c (keepP S x.o.dst) x.chk (compP L S ops l (nextC S C x.o.dst))
      | _, _ => .bad

inductive Task where
  | code (c : Code) (S : Nat) (K : Ctx) (tm : T Value) (dfs : List IDef) (st : ISt)
  | scope (body c : Code) (S : Nat) (K : Ctx) (tm : T Value) (dfs : List IDef) (st : ISt)
  | fn (f : FuncId) (args : List Value) (st : ISt)
  | defers (l : List IDef) (st : ISt)
  | yield (l : Nat) (args : List Value) (st : ISt)

inductive Res where
  | no
  | ok (e : Exit) (tm : T Value) (dfs : List IDef) (st : ISt)
  | val (v : Value) (st : ISt)

noncomputable def exitR : Exit → Res → (T Value) → List IDef → ISt → Res :=
  @Exit.rec (fun _ => Res → T Value → List IDef → ISt → Res) (fun r _ _ _ => r) (fun _ tm dfs st => .ok .ret tm dfs st) (fun id _ tm dfs st => .ok (.exit id) tm dfs st) (fun l _ tm dfs st => .ok (.goto l) tm dfs st)

/-- on, where it ended as usual -/
noncomputable def thenK : Res → (T Value → List IDef → ISt → Res) → Res :=
  @Res.rec (fun _ => (T Value → List IDef → ISt → Res) → Res) (fun _ => .no) (fun e tm dfs st k => exitR e (k tm dfs st) tm dfs st) (fun _ _ _ => .no)

noncomputable def condK : Value → Res → Res → Res :=
  @Value.rec (fun _ => Res → Res → Res) (fun _ => Unit) (fun _ => Unit)
    (fun b => @Bool.rec (fun _ => Res → Res → Res) (fun _ r => r) (fun r _ => r) b)
    (fun _ _ => fun _ _ => .no)
    (fun _ _ => fun _ _ => .no)
    (fun _ _ _ => fun _ _ => .no)
    (fun _ => fun _ _ => .no)
    (fun _ => fun _ _ => .no)
    (fun _ _ _ => fun _ _ => .no)
    (fun _ => fun _ _ => .no)
    (fun _ => fun _ _ => .no)
    (fun _ _ _ _ _ => fun _ _ => .no)
    (fun _ _ => .no)
    (fun _ _ _ => fun _ _ => .no)
    (fun _ _ => .no)
    (fun _ _ => fun _ _ => .no)
    (fun _ _ => fun _ _ => .no)
    (fun _ _ => ()) () (fun _ _ _ _ => ())

noncomputable def blockE (id : Nat) : Exit → T Value → List IDef → ISt → Res :=
  @Exit.rec (fun _ => T Value → List IDef → ISt → Res) (fun tm dfs st => .ok .normal tm dfs st) (fun tm dfs st => .ok .ret tm dfs st)
    (fun id' tm dfs st => @Bool.rec (fun _ => Res) (.ok (.exit id') tm dfs st) (.ok .normal tm dfs st) (Nat.beq id' id)) (fun l tm dfs st => .ok (.goto l) tm dfs st)

noncomputable def blockK : Res → Nat → Res :=
  @Res.rec (fun _ => Nat → Res) (fun _ => .no) (fun e tm dfs st id => blockE id e tm dfs st) (fun _ _ _ => .no)

noncomputable def scopeE (ih : Task → Res) (body : Code) (S : Nat) (K : Ctx) : Exit → T Value → List IDef → ISt → Res :=
  @Exit.rec (fun _ => T Value → List IDef → ISt → Res) (fun tm dfs st => .ok .normal tm dfs st) (fun tm dfs st => .ok .ret tm dfs st) (fun id tm dfs st => .ok (.exit id) tm dfs st)
    (fun l tm dfs st => match findLabel body l with
      | some rest => ih (.scope body rest S K tm dfs st)
      | none => .ok (.goto l) tm dfs st)

noncomputable def scopeK (ih : Task → Res) (body : Code) (S : Nat) (K : Ctx) : Res → Res :=
  @Res.rec (fun _ => Res) .no (fun e tm dfs st => scopeE ih body S K e tm dfs st) (fun _ _ => .no)

noncomputable def opV (S : Nat) (tm : T Value) : Operand → Value
  | .tmp t => match lives S t with
    | true => getV tm t
    | false => undef
  | .const v => match okZ v with
    | true => v
    | false => undef
  | .global _ => undef
  | .func f => .func (.func f) #[] #[]

/-- a call that enters a function -/
noncomputable def enterK (ih : Task → Res) : R → Res
  | .enter f args st => ih (.fn f args.toList st)
  | _ => .no

noncomputable def dRange (L : Pg) (ih : Task → Res) (f : Operand) (params : Array Tmp) (assign body : Code) (S : Nat) (K : Ctx) (tm : T Value) (dfs : List IDef) (st : ISt) : Res :=
  match K.round, opV S tm f with
  | none, .func fn first captured => match st.alloc .defd with
    | (rd, st1) => match st1.alloc (.loop { state := .ready, pending := none, fn := K.fn, tmps := tm, params, assign, body, S := S }) with
      | (l, st2) => match enterK ih (invokeFn L st2 fn captured.toList (first.toList ++ [.func (.yield l) #[] #[]])) with
        | .val _ st3 => match getO st3.heap l with
          | .loop r => match r.state with
            | .busy => .no
            | _ => match exitOf r.pending with
              | some e => .ok e tm (.collected rd :: dfs) (st3.with l (.loop { r with state := .exhausted }))
              | none => .no
          | _ => .no
        | _ => .no
  | _, _ => .no

noncomputable def valK : Res → (Value → ISt → Res) → Res :=
  @Res.rec (fun _ => (Value → ISt → Res) → Res) (fun _ => .no) (fun _ _ _ _ _ => .no) (fun v st k => k v st)

noncomputable def resK : R → (Task → Res) → Ctx → List IDef → ISt → (Value → List IDef → ISt → Res) → Res :=
  @R.rec (fun _ => (Task → Res) → Ctx → List IDef → ISt → (Value → List IDef → ISt → Res) → Res)
    (fun _ _ _ _ _ => .no)
    (fun v st' _ _ dfs _ k => k v dfs st')
    (fun st' _ _ dfs _ k => k undef dfs st')
    (fun f args st' ih _ dfs _ k => valK (ih (.fn f args.toList st')) (fun v st => k v dfs st))
    (fun l args st' ih _ dfs _ k => valK (ih (.yield l args.toList st')) (fun v st => k v dfs st))
    (fun x _ K dfs st k => @Option.rec Nat (fun _ => Res) (k undef (x :: dfs) st) (fun _ => .no) K.round)

noncomputable def run : Ins → Pg → (Task → Res) → Ctx → List Value → T Value → List IDef → ISt → Res :=
  @Ins.rec (fun _ => Pg → (Task → Res) → Ctx → List Value → T Value → List IDef → ISt → Res)
    (fun _ _ _ _ tm dfs st => .ok .normal tm dfs st)
    (fun _ _ _ _ _ _ _ => .no)
    (fun c _ r L ih K env tm dfs st => resK (doCmd c L env tm st) ih K dfs st (fun v dfs st => r L ih K (v :: env) tm dfs st))
    (fun c t _ r L ih K env tm dfs st => resK (doCmd c L env tm st) ih K dfs st (fun v dfs st => r L ih K (v :: env) (setV tm t v) dfs st))
    (fun t x _ r L ih K env tm dfs st => r L ih K env (setV tm t (evR x env tm)) dfs st)

noncomputable def putP : Option Tmp → T Value → Value → T Value := @Option.rec Tmp (fun _ => T Value → Value → T Value) (fun tm _ => tm) (fun t tm v => setV tm t v)

/-- the same value, or none in both -/
noncomputable def agreeV (v : Value) : R → Bool :=
  @R.rec (fun _ => Bool) false (fun u _ => veq 64 v u) (fun _ => false) (fun _ _ _ => false) (fun _ _ _ => false) (fun _ => false)

noncomputable def isSkip : R → Bool :=
  @R.rec (fun _ => Bool) false (fun _ _ => false) (fun _ => true) (fun _ _ _ => false) (fun _ _ _ => false) (fun _ => false)

/-- it comes to the same in each of those states -/
noncomputable def sameIn (L : Pg) (c : Cmd) (env : List Value) (tm : T Value) (g : R → Bool) (pre : List ISt) : List Nat → Bool
  | [] => true
  | k :: ks => match nth pre k with
    | some st => match g (doCmd c L env tm st) with
      | true => sameIn L c env tm g pre ks
      | false => false
    | none => false

noncomputable def quietK : R → Pg → Cmd → List Nat → List ISt → List Value → T Value → ISt → (Value → ISt → Res) → Res :=
  @R.rec (fun _ => Pg → Cmd → List Nat → List ISt → List Value → T Value → ISt → (Value → ISt → Res) → Res)
    (fun _ _ _ _ _ _ _ _ => .no)
    (fun v _ L c chk pre env tm st k => @Bool.rec (fun _ => Res) .no (k v st) (sameIn L c env tm (agreeV v) pre chk))
    (fun _ L c chk pre env tm st k => @Bool.rec (fun _ => Res) .no (k undef st) (sameIn L c env tm isSkip pre chk))
    (fun _ _ _ _ _ _ _ _ _ _ _ => .no) (fun _ _ _ _ _ _ _ _ _ _ _ => .no) (fun _ _ _ _ _ _ _ _ _ => .no)

/-- a block is made, of a number that was kept for it -/
noncomputable def allocK : R → ISt → (Value → ISt → Res) → Res :=
  @R.rec (fun _ => ISt → (Value → ISt → Res) → Res)
    (fun _ _ => .no)
    (fun v st' st k => k v ⟨st'.heap, st.next⟩)
    (fun _ st k => k undef st)
    (fun _ _ _ _ _ => .no) (fun _ _ _ _ _ => .no) (fun _ _ _ => .no)

noncomputable def runP : PIns → Pg → (Task → Res) → Nat → List ISt → Ctx → List Value → T Value → List IDef → ISt → Res :=
  @PIns.rec (fun _ => Pg → (Task → Res) → Nat → List ISt → Ctx → List Value → T Value → List IDef → ISt → Res)
    (fun _ _ _ _ _ _ tm dfs st => .ok .normal tm dfs st)
    (fun _ _ _ _ _ _ _ _ _ => .no)
    (fun c t chk _ r L ih N pre K env tm dfs st => quietK (doCmd c L env tm st) L c chk pre env tm st (fun v st => r L ih N pre K (v :: env) (putP t tm v) dfs st))
    (fun c t _ r L ih N pre K env tm dfs st => resK (doCmd c L env tm st) ih K dfs st (fun v dfs st' => r L ih N (pre ++ [st]) K (v :: env) (putP t tm v) dfs st'))
    (fun t x _ r L ih N pre K env tm dfs st => r L ih N pre K env (setV tm t (evR x env tm)) dfs st)
    (fun c t i _ r L ih N pre K env tm dfs st => allocK (doCmd c L env tm ⟨st.heap, Nat.add N i⟩) st (fun v st => r L ih N pre K (v :: env) (putP t tm v) dfs st))

/-- a region that draws its order -/
noncomputable def dDraw (L : Pg) (ih : Task → Res) (S : Nat) (K : Ctx) (ops : Array Oper) (pl : List Item) (tm : T Value) (dfs : List IDef) (st : ISt) : Res :=
  @Bool.rec (fun _ => Res) .no (runP (compP L S ops pl C0) L ih st.next [] K [] tm dfs (keepN st (resv ops.size pl))) (okPlan ops pl)

/-! which slots live across regions: a guess; what it misses is refused -/

noncomputable def opMask (x : Operand) : Nat := match x with | .tmp t => Nat.pow 2 t | _ => 0

noncomputable def orL : List Nat → Nat
  | [] => 0
  | a :: l => Nat.lor a (orL l)

noncomputable def operMask (o : Oper) : Nat := Nat.lor (orL (o.op.operands.toList.map opMask)) (match o.dst with | some d => Nat.pow 2 d | none => 0)

/-- (seen in a region ahead, lives across) -/
noncomputable def shareC : Code → Nat × Nat → Nat × Nat
  | .seq a b, s => shareC b (shareC a s)
  | .cond c a b, s => shareC b (shareC a (s.1, Nat.lor s.2 (opMask c)))
  | .block _ c, s | .loop c, s | .scope c, s => shareC c s
  | .region _ ops _, s => (fun m => (Nat.lor s.1 m, Nat.lor s.2 (Nat.land s.1 m))) (orL (ops.toList.map operMask))
  | .rangeFunc f ps a b, s => shareC b (shareC a (s.1, Nat.lor (Nat.lor s.2 (opMask f)) (orL (ps.toList.map (Nat.pow 2)))))
  | _, s => s

noncomputable def resMask (r : ResultVar) : Nat := match r with | .tmp t => Nat.pow 2 t | .cell a _ => Nat.pow 2 a

noncomputable def share (c : Code) (rs : List ResultVar) (n : Nat) : Nat :=
  Nat.lor (Nat.lor (Nat.sub (Nat.pow 2 n) 1) (shareC c (0, 0)).2) (orL (rs.map resMask))

noncomputable def dCode : Code → Pg → (Task → Res) → Nat → Ctx → T Value → List IDef → ISt → Res :=
  @Code.rec (fun _ => Pg → (Task → Res) → Nat → Ctx → T Value → List IDef → ISt → Res)
    (fun _ _ _ _ tm dfs st => .ok .normal tm dfs st)
    (fun _ ops draw L ih S K tm dfs st => @Bool.rec (fun _ => Res) (run (compL L S ops ops.toList C0) L ih K [] tm dfs st) (dDraw L ih S K ops (plan ops) tm dfs st) draw)
    (fun _ _ ra rb L ih S K tm dfs st => thenK (ra L ih S K tm dfs st) (rb L ih S K))
    (fun c _ _ ra rb L ih S K tm dfs st => condK (opV S tm c) (ra L ih S K tm dfs st) (rb L ih S K tm dfs st))
    (fun id _ r L ih S K tm dfs st => blockK (r L ih S K tm dfs st) id)
    (fun c r L ih S K tm dfs st => thenK (r L ih S K tm dfs st) (fun tm dfs st => ih (.code (.loop c) S K tm dfs st)))
    (fun f params assign body _ _ L ih S K tm dfs st => dRange L ih f params assign body S K tm dfs st)
    (fun id _ _ _ _ tm dfs st => .ok (.exit id) tm dfs st)
    (fun c _ _ ih S K tm dfs st => ih (.scope c c S K tm dfs st))
    (fun _ _ _ _ _ tm dfs st => .ok .normal tm dfs st)
    (fun l _ _ _ _ tm dfs st => .ok (.goto l) tm dfs st)
    (fun _ _ _ _ tm dfs st => .ok .ret tm dfs st)
    (fun _ _ _ _ _ _ _ _ => .no)

noncomputable def dLeave (L : Pg) (ih : Task → Res) (S : Nat) (rs : List ResultVar) : Res → Res
  | .ok e tm dfs st => match e with
    | .normal | .ret => match ih (.defers dfs st) with
      | .val _ st' => match resultsI L S st' tm rs with
        | some vs => .val (tupleOf vs) st'
        | none => .no
      | _ => .no
    | _ => .no
  | _ => .no

/-- a number, reckoned out ahead -/
noncomputable def forceN (n : Nat) (k : Nat → Res) : Res := @Nat.rec (fun _ => Res) (k 0) (fun m _ => k (Nat.succ m)) n

noncomputable def dFn (L : Pg) (ih : Task → Res) (args : List Value) (st : ISt) (f : FuncId) : Option Func → Res
  | none => .no
  | some F => match F.body with
    | none => .no
    | some body => forceN (Nat.lor (share body F.results.toList (Nat.add F.params.size F.nfree)) (Nat.pow 2 F.ntmps)) (fun S => match Nat.ble (Nat.log2 S) F.ntmps with
      | true => dLeave L ih S F.results.toList (ih (.code body S ⟨none, f⟩ (listRow args 0 .e) [] st))
      | false => .no)

noncomputable def dDefers (L : Pg) (ih : Task → Res) (st : ISt) : List IDef → Res
  | [] => .val undef st
  | d :: ds => match d with
    | .collected r => match getO st.heap r with
      | .defd => ih (.defers ds (st.with r .dead))
      | _ => .no
    | .call fn captured args => match enterK ih (invokeFn L st fn captured.toList args.toList) with
      | .val _ st' => ih (.defers ds st')
      | _ => .no

noncomputable def dRound (l : Nat) : Res → Res
  | .ok e _ dfs st => match dfs, getO st.heap l with
    | [], .loop r => match jumpOf e with
      | none => .val (.bool true) (st.with l (.loop { r with state := .ready, pending := none }))
      | some j => .val (.bool false) (st.with l (.loop { r with state := .done, pending := some j }))
    | _, _ => .no
  | _ => .no

noncomputable def dBody (ih : Task → Res) (l : Nat) (S : Nat) (K : Ctx) (body : Code) : Res → Res
  | .ok e tm dfs st => match e with
    | .normal => match getO st.heap l with
      | .loop r => match r.state with
        | .ready => dRound l (ih (.code body S K tm dfs (st.with l (.loop { r with state := .busy }))))
        | _ => .no
      | _ => .no
    | _ => .no
  | _ => .no

noncomputable def dYield (ih : Task → Res) (l : Nat) (args : List Value) (st : ISt) : IObj → Res
  | .loop r => match Nat.beq args.length r.params.toList.length with
    | true => forceN r.S (fun S => dBody ih l S ⟨some l, r.fn⟩ r.body (ih (.code r.assign S ⟨some l, r.fn⟩ (setParams r.tmps r.params.toList args) [] st)))
    | false => .no
  | _ => .no

noncomputable def dispatch : Task → Pg → (Task → Res) → Res :=
  @Task.rec (fun _ => Pg → (Task → Res) → Res)
    (fun c S K tm dfs st L ih => dCode c L ih S K tm dfs st)
    (fun body c S K tm dfs st L ih => scopeK ih body S K (dCode c L ih S K tm dfs st))
    (fun f args st L ih => dFn L ih args st f (getF L.fn f))
    (fun l st L ih => dDefers L ih st l)
    (fun l args st _ ih => dYield ih l args st (getO st.heap l))

noncomputable def ev (L : Pg) : Nat → Task → Res :=
  @Nat.rec (fun _ => Task → Res) (fun _ => .no) (fun _ ih t => dispatch t L ih)

end Go.Ideal

/-
Tries: what was set is what is found.
-/
namespace Go.Ideal
open Go

section
variable {α : Type} (d : α)

noncomputable def getG : T α → Nat → α :=
  @T.rec α (fun _ => Nat → α) (fun _ => d)
    (fun _ v _ gl gr i => @Nat.rec (fun _ => α) v (fun j _ => @Nat.rec (fun _ => α) (gl (Nat.div j 2)) (fun _ _ => gr (Nat.div j 2)) (Nat.mod j 2)) i)

noncomputable def oneG : Nat → Nat → α → T α :=
  @Nat.rec (fun _ => Nat → α → T α) (fun _ _ => .e)
    (fun _ ih i a => @Nat.rec (fun _ => T α) (.n .e a .e) (fun j _ => @Nat.rec (fun _ => T α) (.n (ih (Nat.div j 2) a) d .e) (fun _ _ => .n .e d (ih (Nat.div j 2) a)) (Nat.mod j 2)) i)

noncomputable def setG : T α → Nat → α → T α :=
  @T.rec α (fun _ => Nat → α → T α) (fun i a => oneG d (Nat.succ i) i a)
    (fun l v r sl sr i a => @Nat.rec (fun _ => T α) (.n l a r) (fun j _ => @Nat.rec (fun _ => T α) (.n (sl (Nat.div j 2) a) v r) (fun _ _ => .n l v (sr (Nat.div j 2) a)) (Nat.mod j 2)) i)

theorem getG_e (i : Nat) : getG d .e i = d := rfl
theorem getG_zero (l r : T α) (v : α) : getG d (.n l v r) 0 = v := rfl
theorem getG_succ (l r : T α) (v : α) (j : Nat) : getG d (.n l v r) (j + 1) = if j % 2 = 0 then getG d l (j / 2) else getG d r (j / 2) := by
  show @Nat.rec (fun _ => α) (getG d l (j / 2)) (fun _ _ => getG d r (j / 2)) (j % 2) = _
  cases h : j % 2
  · rfl
  · rfl

theorem oneG_zero (f : Nat) (a : α) : oneG d (f + 1) 0 a = .n .e a .e := rfl
theorem oneG_succ (f j : Nat) (a : α) : oneG d (f + 1) (j + 1) a = if j % 2 = 0 then .n (oneG d f (j / 2) a) d .e else .n .e d (oneG d f (j / 2) a) := by
  show @Nat.rec (fun _ => T α) (.n (oneG d f (j / 2) a) d .e) (fun _ _ => .n .e d (oneG d f (j / 2) a)) (j % 2) = _
  cases h : j % 2
  · rfl
  · rfl

theorem setG_e (i : Nat) (a : α) : setG d .e i a = oneG d (i + 1) i a := rfl
theorem setG_zero (l r : T α) (v a : α) : setG d (.n l v r) 0 a = .n l a r := rfl
theorem setG_succ (l r : T α) (v a : α) (j : Nat) : setG d (.n l v r) (j + 1) a = if j % 2 = 0 then .n (setG d l (j / 2) a) v r else .n l v (setG d r (j / 2) a) := by
  show @Nat.rec (fun _ => T α) (.n (setG d l (j / 2) a) v r) (fun _ _ => .n l v (setG d r (j / 2) a)) (j % 2) = _
  cases h : j % 2
  · rfl
  · rfl

theorem half_eq {i j : Nat} (hm : j % 2 = i % 2) : j / 2 = i / 2 ↔ j = i := by omega

theorem getG_oneG (a : α) : ∀ (f i j : Nat), i < f → getG d (oneG d f i a) j = if j = i then a else d := by
  intro f
  induction f with
  | zero => intro i j h; omega
  | succ f ih =>
    intro i j h
    cases i with
    | zero =>
      rw [oneG_zero]
      cases j with
      | zero => simp [getG_zero]
      | succ j => simp [getG_succ, getG_e]
    | succ i =>
      rw [oneG_succ]
      split
      · rename_i h2
        cases j with
        | zero => simp [getG_zero]
        | succ j =>
          rw [getG_succ]
          split
          · rw [ih _ _ (by omega)]
            have := @half_eq i j (by omega)
            simp [this]
          · rw [getG_e]; rw [if_neg (by omega)]
      · rename_i h2
        cases j with
        | zero => simp [getG_zero]
        | succ j =>
          rw [getG_succ]
          split
          · rw [getG_e]; rw [if_neg (by omega)]
          · rw [ih _ _ (by omega)]
            have := @half_eq i j (by omega)
            simp [this]

theorem getG_setG (t : T α) (i : Nat) (a : α) (j : Nat) : getG d (setG d t i a) j = if j = i then a else getG d t j := by
  induction t generalizing i j with
  | e => rw [setG_e, getG_oneG d a _ _ _ (by omega), getG_e]
  | n l v r ihl ihr =>
    cases i with
    | zero =>
      rw [setG_zero]
      cases j with
      | zero => simp [getG_zero]
      | succ j => simp [getG_succ]
    | succ i =>
      rw [setG_succ]
      split
      · rename_i h2
        cases j with
        | zero => simp [getG_zero]
        | succ j =>
          rw [getG_succ, getG_succ]
          split
          · rw [ihl]
            have := @half_eq i j (by omega)
            simp [this]
          · rw [if_neg (by omega)]
      · rename_i h2
        cases j with
        | zero => simp [getG_zero]
        | succ j =>
          rw [getG_succ, getG_succ]
          split
          · rw [if_neg (by omega)]
          · rw [ihr]
            have := @half_eq i j (by omega)
            simp [this]
end

theorem getV_setV (t : T Value) (i : Nat) (a : Value) (j : Nat) : getV (setV t i a) j = if j = i then a else getV t j := getG_setG undef t i a j
theorem getO_setO (t : T IObj) (i : Nat) (a : IObj) (j : Nat) : getO (setO t i a) j = if j = i then a else getO t j := getG_setG IObj.dead t i a j
theorem getF_setF (t : T (Option Func)) (i : Nat) (a : Option Func) (j : Nat) : getF (setF t i a) j = if j = i then a else getF t j := getG_setG none t i a j
theorem getY_setY (t : T (Option TypeInfo)) (i : Nat) (a : Option TypeInfo) (j : Nat) : getY (setY t i a) j = if j = i then a else getY t j := getG_setG none t i a j
theorem getA_setA (t : T Src) (i : Nat) (a : Src) (j : Nat) : getA (setA t i a) j = if j = i then a else getA t j := getG_setG Src.no t i a j
theorem getN_setN (t : T Nat) (i : Nat) (a : Nat) (j : Nat) : getN (setN t i a) j = if j = i then a else getN t j := getG_setG 0 t i a j

theorem getV_e (i : Nat) : getV .e i = undef := rfl
theorem getO_e (i : Nat) : getO .e i = .dead := rfl

theorem nth_eq {α : Type} : ∀ (l : List α) (i : Nat), nth l i = l[i]? := by
  intro l
  induction l with
  | nil => intro i; rfl
  | cons a l ih => intro i; cases i with
    | zero => rfl
    | succ i => simp [nth, ih]

theorem nthV_eq : ∀ (l : List Value) (i : Nat), nthV l i = l[i]? := by
  intro l
  induction l with
  | nil => intro i; rfl
  | cons a l ih => intro i; cases i with
    | zero => rfl
    | succ i => show nthV l i = _; simp [ih]

theorem nthU_eq : ∀ (l : List Value) (i : Nat), nthU l i = l.getD i undef := by
  intro l
  induction l with
  | nil => intro i; rfl
  | cons a l ih => intro i; cases i with
    | zero => rfl
    | succ i => show nthU l i = _; simp [ih]

theorem getV_listRow : ∀ (l : List Value) (i : Nat) (t : T Value) (j : Nat), getV (listRow l i t) j = if i ≤ j ∧ j < i + l.length then l.getD (j - i) undef else getV t j := by
  intro l
  induction l with
  | nil => intro i t j; rw [if_neg (by simp)]; rfl
  | cons v l ih =>
    intro i t j
    show getV (listRow l (i + 1) (setV t i v)) j = _
    rw [ih]
    by_cases h : i + 1 ≤ j ∧ j < i + 1 + l.length
    · rw [if_pos h, if_pos (by simp; omega)]
      obtain ⟨k, rfl⟩ : ∃ k, j = i + 1 + k := ⟨j - (i + 1), by omega⟩
      rw [show i + 1 + k - (i + 1) = k by omega, show i + 1 + k - i = k + 1 by omega]; rfl
    · rw [if_neg h, getV_setV]
      by_cases hj : j = i
      · subst hj; rw [if_pos rfl, if_pos (by simp)]; simp
      · rw [if_neg hj, if_neg (by simp; omega)]

end Go.Ideal

/-
How an ideal heap stands for the memory of the machine.
-/
namespace Go.Ideal
open Go

/-- where an ideal block lies: in which block, from which cell on; up to which cell there is room -/
structure Loc where
  B : Nat
  d : Nat
  e : Nat

abbrev Map := Nat → Option Loc

/-- a capacity that is known is the one that is there; `UNK + k`: elements of k cells, up to the end of the room -/
def capR (l : Loc) (o n c c' : Nat) : Prop := (c < UNK ∧ c = c') ∨ ∃ k, 0 < k ∧ c = UNK + k ∧ l.d + o + c' * k = l.e ∧ n ≤ c'

inductive FnR (μ : Map) : Fn → Fn → Prop where
  | func (f : FuncId) : FnR μ (.func f) (.func f)
  | method (n : String) : FnR μ (.method n) (.method n)
  | methodOf (t : TypeId) (n : String) : FnR μ (.methodOf t n) (.methodOf t n)
  | via (t : TypeId) (p : Array FieldStep) (f : FuncId) (q : Bool) : FnR μ (.via t p f q) (.via t p f q)
  | yield {l : Nat} {x : Loc} : μ l = some x → FnR μ (.yield l) (.yield x.B)

mutual
inductive VR (μ : Map) : Value → Value → Prop where
  | bool (b : Bool) : VR μ (.bool b) (.bool b)
  | int (k : IntKind) (n : Int) : VR μ (.int k n) (.int k n)
  | float (k : FloatKind) (n : Nat) : VR μ (.float k n) (.float k n)
  | complex (k : FloatKind) (a b : Nat) : VR μ (.complex k a b) (.complex k a b)
  | string (s : ByteArray) : VR μ (.string s) (.string s)
  | ptrNil : VR μ (.pointer none) (.pointer none)
  | ptr {b o : Nat} {l : Loc} : μ b = some l → VR μ (.pointer (some ⟨b, o, none⟩)) (.pointer (some ⟨l.B, l.d + o, none⟩))
  | sliceNil (n c : Nat) : VR μ (.slice none n c) (.slice none n c)
  | slice {b o n c c' : Nat} {l : Loc} : μ b = some l → capR l o n c c' → VR μ (.slice (some ⟨b, o, none⟩) n c) (.slice (some ⟨l.B, l.d + o, none⟩) n c')
  | sliceE (a a' : Addr) (c : Nat) : c = 0 ∨ UNK ≤ c → VR μ (.slice (some a) 0 c) (.slice (some a') 0 0)
  | mapNil : VR μ (.map none) (.map none)
  | map {r : Nat} {l : Loc} : μ r = some l → VR μ (.map (some r)) (.map (some l.B))
  | chan (r : Option Nat) : r = none → VR μ (.chan r) (.chan r)
  | func {fn fn' : Fn} {f f' c c' : Array Value} : FnR μ fn fn' → VsR μ f.toList f'.toList → VsR μ c.toList c'.toList → VR μ (.func fn f c) (.func fn' f' c')
  | nilFunc : VR μ .nilFunc .nilFunc
  | iface (t : TypeId) {v v' : Value} : VR μ v v' → VR μ (.iface t v) (.iface t v')
  | nilIface : VR μ .nilIface .nilIface
  | agg {c c' : Array Value} : VsR μ c.toList c'.toList → VR μ (.agg c) (.agg c')
  | tuple {c c' : Array Value} : VsR μ c.toList c'.toList → VR μ (.tuple c) (.tuple c')
inductive VsR (μ : Map) : List Value → List Value → Prop where
  | nil : VsR μ [] []
  | cons {v v' : Value} {l l' : List Value} : VR μ v v' → VsR μ l l' → VsR μ (v :: l) (v' :: l')
end

def Map.le (μ μ' : Map) : Prop := ∀ b l, μ b = some l → μ' b = some l

theorem Map.le.refl (μ : Map) : μ.le μ := fun _ _ h => h
theorem Map.le.trans {μ₁ μ₂ μ₃ : Map} (h : μ₁.le μ₂) (h' : μ₂.le μ₃) : μ₁.le μ₃ := fun b l e => h' b l (h b l e)

theorem FnR.mono {μ μ' : Map} (h : μ.le μ') {f f' : Fn} (r : FnR μ f f') : FnR μ' f f' := by
  cases r with
  | yield e => exact .yield (h _ _ e)
  | _ => constructor

mutual
theorem VR.mono {μ μ' : Map} (h : μ.le μ') {v v' : Value} : VR μ v v' → VR μ' v v'
  | .bool b => .bool b
  | .int k n => .int k n
  | .float k n => .float k n
  | .complex k a b => .complex k a b
  | .string s => .string s
  | .ptrNil => .ptrNil
  | .ptr e => .ptr (h _ _ e)
  | .sliceNil n c => .sliceNil n c
  | .slice e r => .slice (h _ _ e) r
  | .sliceE a a' c h => .sliceE a a' c h
  | .mapNil => .mapNil
  | .map e => .map (h _ _ e)
  | .chan r e => .chan r e
  | .func f a b => .func (f.mono h) (VsR.mono h a) (VsR.mono h b)
  | .nilFunc => .nilFunc
  | .iface t r => .iface t (VR.mono h r)
  | .nilIface => .nilIface
  | .agg r => .agg (VsR.mono h r)
  | .tuple r => .tuple (VsR.mono h r)
theorem VsR.mono {μ μ' : Map} (h : μ.le μ') {l l' : List Value} : VsR μ l l' → VsR μ' l l'
  | .nil => .nil
  | .cons a b => .cons (VR.mono h a) (VsR.mono h b)
end

theorem VR.undef {μ : Map} : VR μ undef undef := .tuple .nil

theorem VsR.length {μ : Map} : ∀ {l l' : List Value}, VsR μ l l' → l.length = l'.length
  | _, _, .nil => rfl
  | _, _, .cons _ b => by simp [VsR.length b]

theorem VsR.append {μ : Map} : ∀ {l l' m m' : List Value}, VsR μ l l' → VsR μ m m' → VsR μ (l ++ m) (l' ++ m')
  | _, _, _, _, .nil, h => h
  | _, _, _, _, .cons a b, h => .cons a (VsR.append b h)

theorem VsR.get {μ : Map} : ∀ {l l' : List Value}, VsR μ l l' → ∀ {i : Nat} {v : Value}, l[i]? = some v → ∃ v', l'[i]? = some v' ∧ VR μ v v'
  | _, _, .nil, i, v, h => by simp at h
  | _, _, .cons a b, i, v, h => by
    cases i with
    | zero => simp at h; subst h; exact ⟨_, by simp, a⟩
    | succ i => simp at h; obtain ⟨v', h', r⟩ := VsR.get b h; exact ⟨v', by simpa using h', r⟩

theorem VsR.getD {μ : Map} {l l' : List Value} (h : VsR μ l l') (i : Nat) : VR μ (l.getD i undef) (l'.getD i undef) := by
  have hl := h.length
  by_cases hi : i < l.length
  · obtain ⟨v', h', r⟩ := h.get (i := i) (v := l[i]) (by simp [hi])
    simp only [List.getD_eq_getElem?_getD, h', List.getElem?_eq_getElem hi]
    exact r
  · have hi' : ¬ i < l'.length := by omega
    simp [List.getD_eq_getElem?_getD, List.getElem?_eq_none (Nat.le_of_not_lt hi), List.getElem?_eq_none (Nat.le_of_not_lt hi')]
    exact .undef

theorem VsR.of_get {μ : Map} : ∀ {l l' : List Value}, l.length = l'.length → (∀ (i : Nat) (v v' : Value), l[i]? = some v → l'[i]? = some v' → VR μ v v') → VsR μ l l'
  | [], [], _, _ => .nil
  | [], _ :: _, h, _ => by simp at h
  | _ :: _, [], h, _ => by simp at h
  | a :: l, b :: l', h, r => .cons (r 0 a b rfl rfl) (VsR.of_get (by simpa using h) fun i v v' e e' => r (i + 1) v v' (by simpa using e) (by simpa using e'))

theorem VsR.take {μ : Map} : ∀ {l l' : List Value} (n : Nat), VsR μ l l' → VsR μ (l.take n) (l'.take n)
  | _, _, 0, _ => by simp; exact .nil
  | _, _, n + 1, .nil => by simp; exact .nil
  | _, _, n + 1, .cons a b => by simp; exact .cons a (b.take n)

theorem VsR.drop {μ : Map} : ∀ {l l' : List Value} (n : Nat), VsR μ l l' → VsR μ (l.drop n) (l'.drop n)
  | _, _, 0, h => by simpa using h
  | _, _, n + 1, .nil => by simp; exact .nil
  | _, _, n + 1, .cons _ b => by simpa using b.drop n

/-- a value without places is itself -/
theorem VR.flat {μ : Map} {v v' : Value} (r : VR μ v v') (h : flat v = true) : v' = v := by
  cases r <;> first | rfl | (simp [Ideal.flat] at h)

theorem VR.flat_refl {μ : Map} {v : Value} (h : Ideal.flat v = true) : VR μ v v := by
  cases v with
  | bool b => exact .bool b
  | int k n => exact .int k n
  | float k n => exact .float k n
  | string s => exact .string s
  | pointer a => cases a with
    | none => exact .ptrNil
    | some a => simp [Ideal.flat] at h
  | slice a n c => cases a with
    | none => exact .sliceNil n c
    | some a => simp [Ideal.flat] at h
  | map r => cases r with
    | none => exact .mapNil
    | some a => simp [Ideal.flat] at h
  | nilFunc => exact .nilFunc
  | nilIface => exact .nilIface
  | _ => simp [Ideal.flat] at h

theorem VsR.flat {μ : Map} : ∀ {l l' : List Value}, VsR μ l l' → l.all Ideal.flat = true → l' = l
  | _, _, .nil, _ => rfl
  | _, _, .cons a b, h => by simp at h; rw [a.flat h.1, b.flat (by simpa using h.2)]

/-- may it be written? -/
def wr : IObj → Bool
  | .row .. | .map .. | .loop _ | .defd => true
  | _ => false

def live : IObj → Bool
  | .dead => false
  | _ => true

theorem live_of_wr {o : IObj} (h : wr o = true) : live o = true := by cases o <;> simp_all [wr, live]

inductive EsR (μ : Map) : List MapEntry → List MapEntry → Prop where
  | nil : EsR μ [] []
  | cons {e e' : MapEntry} {l l' : List MapEntry} : e'.key = e.key → okKey e.key = true → VR μ e.val e'.val → e'.born = e.born → EsR μ l l' → EsR μ (e :: l) (e' :: l')

theorem EsR.mono {μ μ' : Map} (h : μ.le μ') : ∀ {l l' : List MapEntry}, EsR μ l l' → EsR μ' l l'
  | _, _, .nil => .nil
  | _, _, .cons a k b c d => .cons a k (b.mono h) c (d.mono h)

/-- the slots that live across regions -/
def FR (μ : Map) (S : Nat) (tm : T Value) (a : Array Value) : Prop :=
  Nat.log2 S ≤ a.size ∧ ∀ t, lives S t = true → VR μ (getV tm t) (a.getD t undef)

theorem FR.mono {μ μ' : Map} (h : μ.le μ') {S : Nat} {tm : T Value} {a : Array Value} (r : FR μ S tm a) : FR μ' S tm a :=
  ⟨r.1, fun t ht => (r.2 t ht).mono h⟩

def ObjR (μ : Map) (w : World) : IObj → Loc → Prop
  | .row over dflt n elem ex, l => ∃ C lo hi, w.heap[l.B]? = some (.cells C elem (lo, hi)) ∧ l.d + n ≤ C.size ∧
      (∀ i v, rowGet over dflt n i = some v → ∃ v', C[l.d + i]? = some v' ∧ VR μ v v') ∧
      (∀ j, l.d ≤ j → (j < l.d + n ∨ j < l.e) → ¬ (lo ≤ j ∧ j < hi)) ∧
      (ex = true → l.d = 0 ∧ C.size = n ∧ l.e = 0) ∧ (ex = false → l.d + n ≤ l.e ∧ l.e ≤ C.size)
  | .rom cs n, l => ∃ C elem fz, w.heap[l.B]? = some (.cells C elem fz) ∧ (∀ i v, rowGet cs [] n i = some v → ∃ v', C[l.d + i]? = some v' ∧ VR μ v v')
  | .dead, _ => True
  | .map es c, l => ∃ es', w.heap[l.B]? = some (.map es' c) ∧ EsR μ es es'.toList
  | .loop r, l => ∃ r', w.heap[l.B]? = some (.loop r') ∧ r'.state = r.state ∧ r'.pending = r.pending ∧ r'.fn = r.fn ∧ r'.params = r.params ∧
      r'.assign = r.assign ∧ r'.body = r.body ∧ FR μ r.S r.tmps r'.tmps
  | .defd, l => w.heap[l.B]? = some (.deferred (some []))

theorem ObjR.mono {μ μ' : Map} (h : μ.le μ') {w : World} {o : IObj} {l : Loc} (r : ObjR μ w o l) : ObjR μ' w o l := by
  cases o with
  | row over dflt n elem ex =>
    obtain ⟨C, lo, hi, h1, h2, h3, h4⟩ := r
    exact ⟨C, lo, hi, h1, h2, fun i v hv => let ⟨v', a, b⟩ := h3 i v hv; ⟨v', a, b.mono h⟩, h4⟩
  | rom cs n =>
    obtain ⟨C, elem, fz, h1, h3⟩ := r
    exact ⟨C, elem, fz, h1, fun i v hv => let ⟨v', a, b⟩ := h3 i v hv; ⟨v', a, b.mono h⟩⟩
  | dead => trivial
  | map es c => obtain ⟨es', h1, h2⟩ := r; exact ⟨es', h1, h2.mono h⟩
  | loop r0 => obtain ⟨r', h1, h2, h3, h4, h5, h6, h7, h8⟩ := r; exact ⟨r', h1, h2, h3, h4, h5, h6, h7, h8.mono h⟩
  | defd => exact r

/-- an object is looked at in its own block alone -/
theorem ObjR.of_heap {μ : Map} {w w' : World} {o : IObj} {l : Loc} (r : ObjR μ w o l) (h : w'.heap[l.B]? = w.heap[l.B]?) : ObjR μ w' o l := by
  cases o with
  | row over dflt n elem ex => obtain ⟨C, lo, hi, h1, h2⟩ := r; exact ⟨C, lo, hi, h.trans h1, h2⟩
  | rom cs n => obtain ⟨C, elem, fz, h1, h2⟩ := r; exact ⟨C, elem, fz, h.trans h1, h2⟩
  | dead => trivial
  | map es c => obtain ⟨es', h1, h2⟩ := r; exact ⟨es', h.trans h1, h2⟩
  | loop r0 => obtain ⟨r', h1, h2⟩ := r; exact ⟨r', h.trans h1, h2⟩
  | defd => exact h.trans r

theorem ObjR.lt {μ : Map} {w : World} {o : IObj} {l : Loc} (r : ObjR μ w o l) (h : live o = true) : l.B < w.heap.size := by
  have key : ∀ x, w.heap[l.B]? = some x → l.B < w.heap.size := by
    intro x hx
    rcases Nat.lt_or_ge l.B w.heap.size with h | h
    · exact h
    · simp [Array.getElem?_eq_none h] at hx
  cases o with
  | row over dflt n elem ex => obtain ⟨C, lo, hi, h1, _⟩ := r; exact key _ h1
  | rom cs n => obtain ⟨C, elem, fz, h1, _⟩ := r; exact key _ h1
  | dead => simp [live] at h
  | map es c => obtain ⟨es', h1, _⟩ := r; exact key _ h1
  | loop r0 => obtain ⟨r', h1, _⟩ := r; exact key _ h1
  | defd => exact key _ r

structure WR (μ : Map) (st : ISt) (w : World) : Prop where
  lt : ∀ b l, μ b = some l → b < st.next
  obj : ∀ b l, μ b = some l → ObjR μ w (getO st.heap b) l
  inj : ∀ b₁ b₂ l₁ l₂, μ b₁ = some l₁ → μ b₂ = some l₂ → wr (getO st.heap b₁) = true → live (getO st.heap b₂) = true → b₁ ≠ b₂ → l₁.B ≠ l₂.B
  top : ∀ c, st.next ≤ c → getO st.heap c = .dead

theorem WR.congr {μ : Map} {st st' : ISt} {w : World} (h : WR μ st w) (hn : st'.next = st.next) (hg : ∀ b, getO st'.heap b = getO st.heap b) : WR μ st' w :=
  ⟨fun b l e => hn ▸ h.lt b l e, fun b l e => by rw [hg]; exact h.obj b l e, fun b₁ b₂ l₁ l₂ e₁ e₂ h₁ h₂ hne => by rw [hg] at h₁ h₂; exact h.inj b₁ b₂ l₁ l₂ e₁ e₂ h₁ h₂ hne, fun c hc => by rw [hg]; exact h.top c (hn ▸ hc)⟩

/-- what may have become of a heap and of memory meanwhile -/
structure Ext (μ : Map) (st : ISt) (w : World) (μ' : Map) (st' : ISt) (w' : World) : Prop where
  ext : μ.le μ'
  new : ∀ b l, μ' b = some l → μ b = some l ∨ (st.next ≤ b ∧ (w.heap.size ≤ l.B ∨ ∃ b₀ l₀, μ b₀ = some l₀ ∧ wr (getO st.heap b₀) = true ∧ l₀.B = l.B))
  per : ∀ b l, μ b = some l → wr (getO st'.heap b) = true → wr (getO st.heap b) = true
  size : w.heap.size ≤ w'.heap.size
  frame : ∀ B, B < w.heap.size → (∀ b l, μ b = some l → wr (getO st.heap b) = true → l.B ≠ B) → w'.heap[B]? = w.heap[B]?
  next : st.next ≤ st'.next
  tape : w'.tape = w.tape
  os : w'.os = w.os
  output : w'.output = w.output
  liv : ∀ c, c < st.next → live (getO st'.heap c) = true → live (getO st.heap c) = true

theorem Ext.refl (μ : Map) (st : ISt) (w : World) : Ext μ st w μ st w :=
  ⟨.refl μ, fun _ _ h => .inl h, fun _ _ _ h => h, Nat.le_refl _, fun _ _ _ => rfl, Nat.le_refl _, rfl, rfl, rfl, fun _ _ h => h⟩

theorem Ext.trans {μ₁ μ₂ μ₃ : Map} {s₁ s₂ s₃ : ISt} {w₁ w₂ w₃ : World} (h : Ext μ₁ s₁ w₁ μ₂ s₂ w₂) (h' : Ext μ₂ s₂ w₂ μ₃ s₃ w₃) : Ext μ₁ s₁ w₁ μ₃ s₃ w₃ where
  ext := h.ext.trans h'.ext
  new := by
    intro b l e
    have h12 : ∀ b l, μ₂ b = some l → wr (getO s₂.heap b) = true → (w₁.heap.size ≤ l.B ∨ ∃ b₀ l₀, μ₁ b₀ = some l₀ ∧ wr (getO s₁.heap b₀) = true ∧ l₀.B = l.B) := by
      intro b l e hw
      rcases h.new b l e with e1 | ⟨_, hc⟩
      · exact .inr ⟨b, l, e1, h.per b l e1 hw, rfl⟩
      · exact hc
    rcases h'.new b l e with e2 | ⟨hb, hc⟩
    · rcases h.new b l e2 with e1 | ⟨hb, hc⟩
      · exact .inl e1
      · exact .inr ⟨hb, hc⟩
    · refine .inr ⟨Nat.le_trans h.next hb, ?_⟩
      rcases hc with hc | ⟨b₀, l₀, e₀, hw₀, hB⟩
      · exact .inl (Nat.le_trans h.size hc)
      · rw [← hB]; exact h12 b₀ l₀ e₀ hw₀
  per := fun b l e hw => h.per b l e (h'.per b l (h.ext b l e) hw)
  size := Nat.le_trans h.size h'.size
  frame := by
    intro B hB hno
    rw [h'.frame B (Nat.lt_of_lt_of_le hB h.size), h.frame B hB hno]
    intro b l e hw hBl
    rcases h.new b l e with e1 | ⟨hb, hc⟩
    · exact hno b l e1 (h.per b l e1 hw) hBl
    · rcases hc with hc | ⟨b₀, l₀, e₀, hw₀, hB₀⟩
      · omega
      · exact hno b₀ l₀ e₀ hw₀ (hB₀.trans hBl)
  next := Nat.le_trans h.next h'.next
  tape := h'.tape.trans h.tape
  os := h'.os.trans h.os
  output := h'.output.trans h.output
  liv := fun c hc hl => h.liv c hc (h'.liv c (Nat.lt_of_lt_of_le hc h.next) hl)

end Go.Ideal

/-
Reading, writing and making ideal blocks, beside the machine's memory.
-/
namespace Go.Ideal
open Go

theorem blt_true {a b : Nat} : Nat.blt a b = true ↔ a < b := by
  show Nat.ble (a + 1) b = true ↔ _
  rw [Nat.ble_eq]; omega

theorem blt_false {a b : Nat} : Nat.blt a b = false ↔ ¬ a < b := by
  rw [← Bool.not_eq_true, blt_true]

theorem rowGet_eq (over : T Value) (dflt : List Value) (n i : Nat) : rowGet over dflt n i = if i < n then orZero (getV over i) dflt i else none := by
  show @Bool.rec (fun _ => Option Value) none (orZero (getV over i) dflt i) (Nat.blt i n) = _
  cases h : Nat.blt i n
  · rw [if_neg (blt_false.1 h)]
  · rw [if_pos (blt_true.1 h)]

theorem orZero_eq (v : Value) (dflt : List Value) (i : Nat) : orZero v dflt i = if isTup v = true then dflt[i % dflt.length]? else some v := by
  show @Bool.rec (fun _ => Option Value) (some v) (nthV dflt (Nat.mod i dflt.length)) (isTup v) = _
  cases h : isTup v
  · rfl
  · simp only [nthV_eq, if_true]; rfl

theorem rowMany_eq (over : T Value) (dflt : List Value) (n : Nat) : ∀ (k i : Nat) (l : List Value), rowMany over dflt n k i = some l → l.length = k ∧ ∀ j, j < k → rowGet over dflt n (i + j) = l[j]? := by
  intro k
  induction k with
  | zero => intro i l h; simp [rowMany] at h; subst h; exact ⟨rfl, fun j hj => by omega⟩
  | succ k ih =>
    intro i l h
    simp only [rowMany] at h
    cases h1 : rowGet over dflt n i with
    | none => simp [h1] at h
    | some v =>
      cases h2 : rowMany over dflt n k (Nat.succ i) with
      | none => simp [h1, h2] at h
      | some m =>
        simp [h1, h2] at h
        subst h
        obtain ⟨hl, hg⟩ := ih _ _ h2
        refine ⟨by simp [hl], fun j hj => ?_⟩
        cases j with
        | zero => simpa using h1
        | succ j => rw [show i + (j + 1) = Nat.succ i + j by omega, hg j (by omega)]; simp

/-! ## Loads -/

theorem run_load_some {P : Program} {w : World} {a : Addr} {v : Value} (h : w.cell? a = some v) : (load a).run P w = .ok v w := by
  simp [load, Sem.run, h]

theorem add_plain (B o i : Nat) : (⟨B, o, none⟩ : Addr).add i = ⟨B, o + i, none⟩ := by
  unfold Addr.add
  split
  · rename_i h; subst h; rfl
  · rfl

theorem cell_of {w : World} {B : Nat} {C : Array Value} {elem : TypeId} {fz : Nat × Nat} (h : w.heap[B]? = some (.cells C elem fz)) (i : Nat) : w.cell? ⟨B, i, none⟩ = C[i]? := by
  simp [World.cell?, h]

theorem run_loadCellsFrom {P : Program} {w : World} {B o : Nat} : ∀ (vs : List Value) (i : Nat) (acc : Array Value),
    (∀ j, j < vs.length → w.cell? ⟨B, o + (i + j), none⟩ = vs[j]?) → (loadCellsFrom ⟨B, o, none⟩ i vs.length acc).run P w = .ok (acc ++ vs.toArray) w := by
  intro vs
  induction vs with
  | nil => intro i acc _; simp [loadCellsFrom]
  | cons v vs ih =>
    intro i acc h
    simp only [List.length_cons, loadCellsFrom, add_plain]
    have h0 : w.cell? ⟨B, o + i, none⟩ = some v := by have := h 0 (by simp); simpa using this
    rw [Sem.run_bind, run_load_some h0, Result.andThen_ok, ih (i + 1) (acc.push v)]
    · simp
    · intro j hj
      have := h (j + 1) (by simp; omega)
      rw [show i + 1 + j = i + (j + 1) by omega, this]; simp

theorem run_loadCells {P : Program} {w : World} {B o : Nat} {vs : List Value} (h : ∀ j, j < vs.length → w.cell? ⟨B, o + j, none⟩ = vs[j]?) :
    (loadCells ⟨B, o, none⟩ vs.length).run P w = .ok vs.toArray w := by
  have := run_loadCellsFrom (P := P) vs 0 #[] (w := w) (B := B) (o := o) (by simpa using h)
  simpa [loadCells] using this

section
variable {μ : Map} {st : ISt} {w : World}

theorem WR.cell (h : WR μ st w) {b o : Nat} {l : Loc} (e : μ b = some l) {v : Value} (hv : objCell (getO st.heap b) o = some v) :
    ∃ v', w.cell? ⟨l.B, l.d + o, none⟩ = some v' ∧ VR μ v v' := by
  have ho := h.obj b l e
  cases hb : getO st.heap b with
  | row over dflt n elem ex =>
    rw [hb] at ho hv
    obtain ⟨C, lo, hi, h1, h2, h3, _⟩ := ho
    obtain ⟨v', h4, h5⟩ := h3 o v hv
    exact ⟨v', by rw [cell_of h1, h4], h5⟩
  | rom cs n =>
    rw [hb] at ho hv
    obtain ⟨C, elem, fz, h1, h3⟩ := ho
    obtain ⟨v', h4, h5⟩ := h3 o v hv
    exact ⟨v', by rw [cell_of h1, h4], h5⟩
  | _ => rw [hb] at hv; simp [objCell] at hv

theorem WR.cells (h : WR μ st w) {b o k : Nat} {l : Loc} (e : μ b = some l) {vs : List Value} (hv : objCells (getO st.heap b) k o = some vs) :
    ∃ vs', VsR μ vs vs' ∧ vs'.length = k ∧ ∀ j, j < k → w.cell? ⟨l.B, l.d + o + j, none⟩ = vs'[j]? := by
  have hc : vs.length = k ∧ ∀ j, j < k → objCell (getO st.heap b) (o + j) = vs[j]? := by
    cases hb : getO st.heap b with
    | row over dflt n elem ex => rw [hb] at hv; exact rowMany_eq _ _ _ _ _ _ hv
    | rom cs n => rw [hb] at hv; exact rowMany_eq _ _ _ _ _ _ hv
    | _ => rw [hb] at hv; simp [objCells] at hv
  obtain ⟨hl, hg⟩ := hc
  -- choose the cells that lie there
  refine ⟨(List.range k).map fun j => (w.cell? ⟨l.B, l.d + o + j, none⟩).getD undef, ?_, by simp, ?_⟩
  · refine VsR.of_get (by simp [hl]) fun i v v' hi hi' => ?_
    have hik : i < k := by
      rcases Nat.lt_or_ge i vs.length with h | h
      · omega
      · simp [List.getElem?_eq_none h] at hi
    obtain ⟨u, hu, hr⟩ := h.cell e (by rw [hg i hik]; exact hi)
    have hu' : w.cell? ⟨l.B, l.d + o + i, none⟩ = some u := by rw [← hu, Nat.add_assoc]
    simp [hik, hu'] at hi'
    subst hi'
    exact hr
  · intro j hj
    obtain ⟨u, hu, _⟩ := h.cell e (o := o + j) (v := vs[j]'(by omega)) (by rw [hg j hj]; simp [hl, hj])
    have hu' : w.cell? ⟨l.B, l.d + o + j, none⟩ = some u := by rw [← hu, Nat.add_assoc]
    simp [hj, hu']

theorem WR.run_cells (h : WR μ st w) {P : Program} {b o k : Nat} {l : Loc} (e : μ b = some l) {vs : List Value} (hv : objCells (getO st.heap b) k o = some vs) :
    ∃ vs', VsR μ vs vs' ∧ (loadCells ⟨l.B, l.d + o, none⟩ k).run P w = .ok vs'.toArray w := by
  obtain ⟨vs', hr, hl, hg⟩ := h.cells e hv
  refine ⟨vs', hr, ?_⟩
  have := run_loadCells (P := P) (w := w) (B := l.B) (o := l.d + o) (vs := vs') (by rw [hl]; exact hg)
  rw [hl] at this; exact this

end
end Go.Ideal

/-
Writing to ideal blocks and making them, beside the machine's memory.
-/
namespace Go.Ideal
open Go

theorem oneCell_eq (v : Value) : oneCell v = v.oneCell' := by cases v <;> rfl

theorem isTup_of_one {v : Value} (h : oneCell v = true) : isTup v = false := by cases v <;> first | rfl | (simp [oneCell] at h)

theorem VR.oneCell {μ : Map} {v v' : Value} (r : VR μ v v') (h : Ideal.oneCell v = true) : v'.oneCell' = true := by
  cases r <;> first | rfl | (simp [Ideal.oneCell] at h)

theorem ISt.with_get (st : ISt) (b : Nat) (o : IObj) (c : Nat) : getO (st.with b o).heap c = if c = b then o else getO st.heap c := getO_setO _ _ _ _
theorem ISt.with_next (st : ISt) (b : Nat) (o : IObj) : (st.with b o).next = st.next := rfl
theorem ISt.alloc_get (st : ISt) (o : IObj) (c : Nat) : getO (st.alloc o).2.heap c = if c = st.next then o else getO st.heap c := getO_setO _ _ _ _
theorem ISt.alloc_next (st : ISt) (o : IObj) : (st.alloc o).2.next = st.next + 1 := rfl
theorem ISt.alloc_fst (st : ISt) (o : IObj) : (st.alloc o).1 = st.next := rfl

theorem rowGet_set (over : T Value) (dflt : List Value) (n i : Nat) (v : Value) (hv : isTup v = false) (j : Nat) :
    rowGet (setV over i v) dflt n j = if j = i ∧ i < n then some v else rowGet over dflt n j := by
  rw [rowGet_eq, rowGet_eq]
  by_cases hj : j < n
  · rw [if_pos hj, if_pos hj, orZero_eq, orZero_eq, getV_setV]
    by_cases h : j = i
    · subst h; simp [hv, hj]
    · simp [h]
  · rw [if_neg hj, if_neg hj, if_neg (by omega)]

/-- the machine's block at which a writable ideal one lies is turned; nothing else is -/
theorem WR.turn {μ : Map} {st : ISt} {w w' : World} (h : WR μ st w) {b : Nat} {l : Loc} (e : μ b = some l) {o : IObj}
    (hw : wr (getO st.heap b) = true) (hother : ∀ B, B ≠ l.B → w'.heap[B]? = w.heap[B]?) (hobj : ObjR μ w' o l) : WR μ (st.with b o) w' where
  lt := h.lt
  obj := by
    intro c m ec
    rw [ISt.with_get]
    by_cases hc : c = b
    · subst hc
      rw [if_pos rfl]
      have : m = l := by rw [e] at ec; simpa using ec.symm
      subst this; exact hobj
    · rw [if_neg hc]
      cases hl : live (getO st.heap c) with
      | false =>
        cases hg : getO st.heap c <;> simp [hg, live] at hl
        trivial
      | true => exact (h.obj c m ec).of_heap (hother _ (fun hB => h.inj b c l m e ec hw hl (fun hbc => hc hbc.symm) hB.symm))
  inj := by
    intro b₁ b₂ l₁ l₂ e₁ e₂ h₁ h₂ hne
    rw [ISt.with_get] at h₁ h₂
    refine h.inj b₁ b₂ l₁ l₂ e₁ e₂ ?_ ?_ hne
    · split at h₁
      · rename_i hb; subst hb; exact hw
      · exact h₁
    · split at h₂
      · rename_i hb; subst hb; exact live_of_wr hw
      · exact h₂
  top := by
    intro c hc
    rw [ISt.with_get, if_neg (by rintro rfl; exact absurd (h.lt _ _ e) (Nat.not_lt.2 hc))]
    exact h.top c hc

theorem Ext.turn {μ : Map} {st : ISt} {w w' : World} {b : Nat} {l : Loc} (e : μ b = some l) {o : IObj} (hw : wr (getO st.heap b) = true)
    (hother : ∀ B, B ≠ l.B → w'.heap[B]? = w.heap[B]?) (hs : w.heap.size ≤ w'.heap.size) (ht : w'.tape = w.tape) (hos : w'.os = w.os) (hout : w'.output = w.output) : Ext μ st w μ (st.with b o) w' where
  ext := .refl μ
  new := fun _ _ h => .inl h
  per := by
    intro c m _ hc
    rw [ISt.with_get] at hc
    split at hc
    · rename_i h; subst h; exact hw
    · exact hc
  size := hs
  frame := fun B _ hno => hother B (fun hB => hno b l e hw hB.symm)
  next := Nat.le_refl _
  tape := ht
  os := hos
  output := hout
  liv := by
    intro c _ hc
    rw [ISt.with_get] at hc
    split at hc
    · rename_i h; subst h; exact live_of_wr hw
    · exact hc

theorem setCell_heap {w : World} {B i : Nat} {C : Array Value} {elem : TypeId} {fz : Nat × Nat} (h : w.heap[B]? = some (.cells C elem fz)) (v : Value) :
    (w.setCell ⟨B, i, none⟩ v).heap[B]? = some (.cells (C.setIfInBounds i v) elem fz) := by
  simp [World.setCell, Array.getElem?_modify, h]

theorem setCell_other {w : World} {B i : Nat} (v : Value) (C : Nat) (h : C ≠ B) : (w.setCell ⟨B, i, none⟩ v).heap[C]? = w.heap[C]? := by
  simp [World.setCell, Array.getElem?_modify, Ne.symm h]

/-- one cell of a row is written -/
theorem WR.set {μ : Map} {st : ISt} {w : World} (h : WR μ st w) {b i : Nat} {l : Loc} (e : μ b = some l) {over : T Value} {dflt : List Value} {n : Nat} {elem : TypeId} {ex : Bool}
    (hb : getO st.heap b = .row over dflt n elem ex) (hi : i < n) {v v' : Value} (hv : VR μ v v') (h1 : oneCell v = true) (P : Program) :
    (store ⟨l.B, l.d + i, none⟩ v').run P w = .ok () (w.setCell ⟨l.B, l.d + i, none⟩ v') ∧
    WR μ (st.with b (.row (setV over i v) dflt n elem ex)) (w.setCell ⟨l.B, l.d + i, none⟩ v') ∧
    Ext μ st w μ (st.with b (.row (setV over i v) dflt n elem ex)) (w.setCell ⟨l.B, l.d + i, none⟩ v') := by
  have ho := h.obj b l e
  rw [hb] at ho
  obtain ⟨C, lo, hi', hc, hsz, hcells, hfz, hex, hgr⟩ := ho
  have hlt : l.d + i < C.size := by omega
  have hcell : w.cell? ⟨l.B, l.d + i, none⟩ = some C[l.d + i] := by rw [cell_of hc]; simp [hlt]
  have hfr : w.frozen? ⟨l.B, l.d + i, none⟩ = false := by
    have := hfz (l.d + i) (by omega) (.inl (by omega))
    simp only [World.frozen?, hc]
    simpa using this
  refine ⟨?_, ?_, ?_⟩
  · rw [run_store _ _ _ _ _ (hv.oneCell h1), hcell]; simp [hfr]
  · refine h.turn e (by rw [hb]; rfl) (fun B hB => setCell_other _ _ hB) ?_
    refine ⟨C.setIfInBounds (l.d + i) v', lo, hi', setCell_heap hc _, by simpa using hsz, ?_, hfz, ?_, ?_⟩
    · intro j u hj
      rw [rowGet_set _ _ _ _ _ (isTup_of_one h1)] at hj
      by_cases hji : j = i
      · subst hji
        simp [hi] at hj
        subst hj
        exact ⟨v', by simp [hlt], hv⟩
      · simp [hji] at hj
        obtain ⟨u', h4, h5⟩ := hcells j u hj
        refine ⟨u', ?_, h5⟩
        rw [Array.getElem?_setIfInBounds_ne (by omega)]; exact h4
    · intro he; obtain ⟨a, b', c⟩ := hex he; exact ⟨a, by simpa using b', c⟩
    · intro he; obtain ⟨a, b'⟩ := hgr he; exact ⟨a, by simpa using b'⟩
  · exact Ext.turn e (by rw [hb]; rfl) (fun B hB => setCell_other _ _ hB) (by simp) rfl rfl rfl

theorem ISt.with_with (st : ISt) (b : Nat) (o o' : IObj) (c : Nat) : getO ((st.with b o).with b o').heap c = getO (st.with b o').heap c := by
  rw [ISt.with_get, ISt.with_get, ISt.with_get]; split <;> rfl

theorem Ext.congr {μ μ' : Map} {st st' st'' : ISt} {w w' : World} (h : Ext μ st w μ' st' w') (hn : st''.next = st'.next) (hg : ∀ b, getO st''.heap b = getO st'.heap b) : Ext μ st w μ' st'' w' :=
  { h with per := fun b l e hw => h.per b l e (by rw [hg] at hw; exact hw), next := hn ▸ h.next, liv := fun c hc hl => h.liv c hc (by rw [hg] at hl; exact hl) }

/-- cells of a row are written, one behind the other -/
theorem WR.puts {μ : Map} {P : Program} {b : Nat} {l : Loc} (e : μ b = some l) {dflt : List Value} {n : Nat} {elem : TypeId} {ex : Bool} : ∀ (vs vs' : List Value) (i o : Nat) (over over' : T Value) (st : ISt) (w : World),
    WR μ st w → getO st.heap b = .row over dflt n elem ex → VsR μ vs vs' → allOne vs = true → rowPut over n (o + i) vs = some over' →
    ∃ w', (storeCells ⟨l.B, l.d + o, none⟩ vs' i).run P w = .ok () w' ∧ WR μ (st.with b (.row over' dflt n elem ex)) w' ∧ Ext μ st w μ (st.with b (.row over' dflt n elem ex)) w' := by
  intro vs
  induction vs with
  | nil =>
    intro vs' i o over over' st w h hb hr _ hp
    cases hr
    simp [rowPut] at hp
    subst hp
    have hg : ∀ c, getO (st.with b (.row over dflt n elem ex)).heap c = getO st.heap c := by
      intro c; rw [ISt.with_get]; split
      · rename_i hc; subst hc; exact hb.symm
      · rfl
    exact ⟨w, by simp [storeCells], h.congr rfl hg, (Ext.refl μ st w).congr rfl hg⟩
  | cons v vs ih =>
    intro vs' i o over over' st w h hb hr h1 hp
    cases hr with
    | cons ra rb =>
      rename_i v' vs'
      have h1v : oneCell v = true := by
        cases hv : oneCell v <;> simp [allOne, hv] at h1
        rfl
      have h1r : allOne vs = true := by simpa [allOne, h1v] using h1
      have hlt : o + i < n := by
        simp only [rowPut] at hp
        cases hb' : Nat.blt (o + i) n
        · simp [hb'] at hp
        · exact blt_true.1 hb'
      have hp' : rowPut (setV over (o + i) v) n (o + (i + 1)) vs = some over' := by
        simp only [rowPut, blt_true.2 hlt] at hp
        exact hp
      obtain ⟨hrun, hW, hE⟩ := h.set e hb hlt ra h1v P
      obtain ⟨w', hrun', hW', hE'⟩ := ih vs' (i + 1) o (setV over (o + i) v) over' _ _ hW (by rw [ISt.with_get, if_pos rfl]) rb h1r hp'
      refine ⟨w', ?_, hW'.congr rfl (fun c => (ISt.with_with _ _ _ _ c).symm), (hE.trans hE').congr rfl (fun c => (ISt.with_with _ _ _ _ c).symm)⟩
      simp only [storeCells, add_plain]
      rw [Sem.run_bind, show l.d + o + i = l.d + (o + i) by omega, hrun, Result.andThen_ok]
      exact hrun'

/-- a new ideal block, at a new block of the machine's -/
def Map.put (μ : Map) (b : Nat) (l : Loc) : Map := fun c => if c = b then some l else μ c

theorem Map.put_same (μ : Map) (b : Nat) (l : Loc) : μ.put b l b = some l := if_pos rfl
theorem Map.le_put {μ : Map} {b : Nat} (h : μ b = none) (l : Loc) : μ.le (μ.put b l) := by
  intro c m e
  unfold Map.put
  split
  · rename_i hc; subst hc; rw [h] at e; cases e
  · exact e

theorem WR.fresh {μ : Map} {st : ISt} {w : World} (h : WR μ st w) : μ st.next = none := by
  cases e : μ st.next with
  | none => rfl
  | some l => have := h.lt _ _ e; omega

theorem alloc_heap_old {w : World} {o : Obj} {B : Nat} (h : B < w.heap.size) : (w.alloc o).heap[B]? = w.heap[B]? := by
  show (w.heap.push o)[B]? = _
  rw [Array.getElem?_push, if_neg (Nat.ne_of_lt h)]

theorem alloc_heap_new {w : World} {o : Obj} : (w.alloc o).heap[w.heap.size]? = some o := by
  show (w.heap.push o)[w.heap.size]? = _
  simp

theorem WR.alloc {μ : Map} {st : ISt} {w : World} (h : WR μ st w) {o : IObj} {x : Obj} (l : Loc) (hB : l.B = w.heap.size)
    (hobj : ObjR (μ.put st.next l) (w.alloc x) o l) : WR (μ.put st.next l) (st.alloc o).2 (w.alloc x) ∧ Ext μ st w (μ.put st.next l) (st.alloc o).2 (w.alloc x) := by
  have hle := Map.le_put h.fresh l
  have hlt : ∀ c m, μ c = some m → live (getO st.heap c) = true → m.B < w.heap.size := fun c m e hl => (h.obj c m e).lt hl
  refine ⟨⟨?_, ?_, ?_, ?_⟩, ⟨hle, ?_, ?_, by simp, ?_, by rw [ISt.alloc_next]; omega, rfl, rfl, rfl, ?_⟩⟩
  · intro b m e
    rw [ISt.alloc_next]
    unfold Map.put at e
    split at e
    · omega
    · have := h.lt b m e; omega
  · intro b m e
    rw [ISt.alloc_get]
    unfold Map.put at e
    split at e
    · rename_i hb; cases e; rw [if_pos hb]; exact hobj
    · rename_i hb
      rw [if_neg hb]
      cases hl : live (getO st.heap b) with
      | false =>
        cases hg : getO st.heap b <;> simp [hg, live] at hl
        trivial
      | true => exact ((h.obj b m e).mono hle).of_heap (alloc_heap_old (hlt b m e hl))
  · intro b₁ b₂ l₁ l₂ e₁ e₂ h₁ h₂ hne
    rw [ISt.alloc_get] at h₁ h₂
    unfold Map.put at e₁ e₂
    split at e₁ <;> split at e₂
    · rename_i a b; exact absurd (a.trans b.symm) hne
    · rename_i a b; cases e₁; rw [if_neg b] at h₂; have := hlt b₂ l₂ e₂ h₂; omega
    · rename_i a b; cases e₂; rw [if_neg a] at h₁; have := hlt b₁ l₁ e₁ (live_of_wr h₁); omega
    · rename_i a b; rw [if_neg a] at h₁; rw [if_neg b] at h₂; exact h.inj b₁ b₂ l₁ l₂ e₁ e₂ h₁ h₂ hne
  · intro c hc
    rw [ISt.alloc_next] at hc
    rw [ISt.alloc_get, if_neg (by omega)]
    exact h.top c (by omega)
  · intro b m e
    unfold Map.put at e
    split at e
    · rename_i hb; cases e; exact .inr ⟨by omega, .inl (by omega)⟩
    · exact .inl e
  · intro b m e hw
    have := h.lt b m e
    rw [ISt.alloc_get, if_neg (by omega)] at hw
    exact hw
  · intro B hB' _
    exact alloc_heap_old hB'
  · intro c hc hl
    rw [ISt.alloc_get, if_neg (by omega)] at hl
    exact hl

/-- an ideal block is forgotten -/
theorem WR.kill {μ : Map} {st : ISt} {w : World} (h : WR μ st w) (b : Nat) : WR μ (st.kill b) w ∧ Ext μ st w μ (st.kill b) w := by
  refine ⟨⟨h.lt, ?_, ?_, ?_⟩, ⟨.refl μ, fun _ _ e => .inl e, ?_, Nat.le_refl _, fun _ _ _ => rfl, Nat.le_refl _, rfl, rfl, rfl, ?_⟩⟩
  · intro c m e
    show ObjR μ w (getO (st.with b .dead).heap c) m
    rw [ISt.with_get]
    split
    · trivial
    · exact h.obj c m e
  · intro b₁ b₂ l₁ l₂ e₁ e₂ h₁ h₂ hne
    change wr (getO (st.with b .dead).heap b₁) = true at h₁
    change live (getO (st.with b .dead).heap b₂) = true at h₂
    rw [ISt.with_get] at h₁ h₂
    split at h₁
    · simp [wr] at h₁
    · split at h₂
      · simp [live] at h₂
      · exact h.inj b₁ b₂ l₁ l₂ e₁ e₂ h₁ h₂ hne
  · intro c hc
    change getO (st.with b .dead).heap c = .dead
    rw [ISt.with_get]
    split
    · rfl
    · exact h.top c hc
  · intro c m e hw
    change wr (getO (st.with b .dead).heap c) = true at hw
    rw [ISt.with_get] at hw
    split at hw
    · simp [wr] at hw
    · exact hw
  · intro c _ hl
    change live (getO (st.with b .dead).heap c) = true at hl
    rw [ISt.with_get] at hl
    split at hl
    · simp [live] at hl
    · exact hl

theorem Ext.drew {μ μ' : Map} {st st' : ISt} {w w' : World} (h : Ext μ st w μ' st' w') (n : Nat) : Ext μ st w μ' st' { w' with drawn := n } :=
  { h with }

theorem WR.drew {μ : Map} {st : ISt} {w : World} (h : WR μ st w) (n : Nat) : WR μ st { w with drawn := n } :=
  ⟨h.lt, fun b l e => (h.obj b l e).of_heap rfl, h.inj, h.top⟩

end Go.Ideal

/-
What an operation comes to over the ideal heap, it comes to in the machine: operations that look at no memory.
-/
namespace Go.Ideal
open Go

/-- the quick tables are the program's -/
structure LOk (L : Pg) : Prop where
  ty : ∀ t i, getY L.ty t = some i → L.P.info? t = some i
  fn : ∀ f F, getF L.fn f = some F → L.P.funcs[f]? = some F
  named : ∀ (f : FuncId) (F : Func), L.P.funcs[f]? = some F → (F.name == "runtime.NumGoroutine") = false
  noesc : ∀ (f : FuncId) (F : Func), L.P.funcs[f]? = some F → (F.name == "internal/abi.NoEscape") = true → Extern.findNext F = none ∧ Extern.find F = some Extern.AbiNoEscape.same
  mixed : L.P.follows .mixedOrders = true

section
variable {L : Pg} (hL : LOk L) {w : World}
include hL

theorem LOk.und {t : TypeId} {d : TypeDesc} (h : L.und t = some d) : L.P.underlying t = some d := by
  unfold Pg.und Pg.info at h
  unfold Program.underlying
  cases hi : getY L.ty t with
  | none => simp [hi] at h
  | some i =>
    rw [hL.ty _ _ hi]
    simp only [hi] at h
    obtain ⟨desc, str, size, bytes, hp, al, fa, zero, cmp, ms⟩ := i
    cases desc with
    | named nm u =>
      simp only at h ⊢
      cases hu : getY L.ty u with
      | none => simp [hu] at h
      | some j =>
        simp only [hu] at h
        rw [hL.ty _ _ hu]
        simpa using h
    | _ => simpa using h

theorem LOk.run_und {t : TypeId} {d : TypeDesc} (h : L.und t = some d) : (underlying t).run L.P w = .ok d w := by
  simp [underlying, hL.und h]

theorem LOk.run_info {t : TypeId} {i : TypeInfo} (h : L.info t = some i) : (typeInfo t).run L.P w = .ok i w := by
  simp [typeInfo, hL.ty _ _ h]

theorem LOk.run_size {t : TypeId} {n : Nat} (h : szOf L t = some n) : (sizeOf t).run L.P w = .ok n w := by
  unfold szOf at h
  cases hi : L.info t with
  | none => simp [hi] at h
  | some i => simp [hi] at h; simp [sizeOf, hL.run_info hi, h]

theorem LOk.run_zero {t : TypeId} {z : Value} (h : zeroOf L t = some z) : (zeroValue t).run L.P w = .ok z w := by
  unfold zeroOf at h
  cases hi : L.info t with
  | none => simp [hi] at h
  | some i =>
    simp only [hi] at h
    cases hz : i.zero with
    | none => simp [hz, okZero] at h
    | some z' =>
      simp only [hz, okZero] at h
      cases ho : okZ z' <;> simp [ho] at h
      simp [zeroValue, hL.run_info hi, hz, h]

omit hL in
theorem zeroOf_ok {t : TypeId} {z : Value} (h : zeroOf L t = some z) : okZ z = true := by
  unfold zeroOf at h
  cases hi : L.info t with
  | none => simp [hi] at h
  | some i =>
    simp only [hi] at h
    cases hz : i.zero with
    | none => simp [hz, okZero] at h
    | some z' =>
      simp only [hz, okZero] at h
      cases ho : okZ z' <;> simp [ho] at h
      rw [← h]; exact ho

theorem LOk.run_agg {t : TypeId} {b : Bool} (h : aggOf L t = some b) : (isAgg t).run L.P w = .ok b w := by
  unfold aggOf at h
  cases hd : L.und t with
  | none => simp [hd] at h
  | some d =>
    simp [hd] at h
    simp only [isAgg, Sem.run_bind, hL.run_und hd, Result.andThen_ok]
    subst h
    cases d <;> rfl

end

theorem pureRun_run {α : Type} {P : Program} {s : Sem α} {a : α} (h : pureRun P s = some a) (w : World) : s.run P w = .ok a w := by
  induction s with
  | pure x => simp [pureRun] at h; subst h; rfl
  | program k ih => simp only [pureRun] at h; simp only [Sem.run]; exact ih _ h
  | mark m k ih => simp only [pureRun] at h; simp only [Sem.run]; exact ih h
  | _ => simp [pureRun] at h

theorem VsR.flat_refl {μ : Map} : ∀ {l : List Value}, l.all Ideal.flat = true → VsR μ l l
  | [], _ => .nil
  | v :: l, h => by
    simp at h
    exact .cons (VR.flat_refl h.1) (VsR.flat_refl (by simpa using h.2))

theorem VR.okZ {μ : Map} {z : Value} (h : Ideal.okZ z = true) : VR μ z z := by
  cases z with
  | agg cs => exact .agg (VsR.flat_refl h)
  | _ => exact VR.flat_refl h

/-- a deferred call, and what the machine has for it -/
inductive DfR (μ : Map) : IDef → Deferred → Prop where
  | collected {r : Nat} {l : Loc} : μ r = some l → DfR μ (.collected r) { target := .collected l.B, args := #[] }
  | call {fn fn' : Fn} {c c' a a' : Array Value} : FnR μ fn fn' → VsR μ c.toList c'.toList → VsR μ a.toList a'.toList → DfR μ (.call fn c a) { target := .fn fn' c', args := a' }

theorem DfR.mono {μ μ' : Map} (h : μ.le μ') {d : IDef} {d' : Deferred} (r : DfR μ d d') : DfR μ' d d' := by
  cases r with
  | collected e => exact .collected (h _ _ e)
  | call f a b => exact .call (f.mono h) (a.mono h) (b.mono h)

/-- what the machine comes to, where the ideal heap came to that -/
def Out (μ : Map) (st : ISt) (P : Program) (w : World) : R → Result Next → Prop
  | .fail, _ => True
  | .val v st', r => ∃ v' μ' w', r = .ok (.value v') w' ∧ VR μ' v v' ∧ WR μ' st' w' ∧ Ext μ st w μ' st' w'
  | .skip st', r => ∃ μ' w', r = .ok .skip w' ∧ WR μ' st' w' ∧ Ext μ st w μ' st' w'
  | .enter f args st', r => ∃ args', r = .ok (.enter f args') w ∧ VsR μ args.toList args'.toList ∧ st' = st
  | .yield l args st', r => ∃ x args', μ l = some x ∧ VsR μ args.toList args'.toList ∧ st' = st ∧ r = (Instr.yield x.B args').run P w
  | .defer d, r => ∃ d', r = .ok (.defer d') w ∧ DfR μ d d'

section
variable {L : Pg} (hL : LOk L) {μ : Map} {st : ISt} {w : World} (hW : WR μ st w)

include hW in
theorem Out.pure {P : Program} {v v' : Value} {r : Result Next} (h : r = .ok (.value v') w) (hv : VR μ v v') : Out μ st P w (.val v st) r :=
  ⟨v', μ, w, h, hv, hW, Ext.refl μ st w⟩

include hW in
theorem Out.ofV {P : Program} {x : Option Value} {r : Result Next} (h : ∀ v, x = some v → ∃ v', r = .ok (.value v') w ∧ VR μ v v') : Out μ st P w (.ofV st x) r := by
  cases x with
  | none => trivial
  | some v => obtain ⟨v', h1, h2⟩ := h v rfl; exact Out.pure hW h1 h2

/-- .. where nothing but a value is made -/
def OutP (μ : Map) (st : ISt) (P : Program) (w : World) : R → Result Next → Prop
  | .fail, _ => True
  | .val v st', r => st' = st ∧ ∃ v', r = .ok (.value v') w ∧ VR μ v v'
  | .skip st', r => st' = st ∧ r = .ok .skip w
  | _, _ => P.funcs.size < 0

include hW in
theorem OutP.out {P : Program} {r : R} {res : Result Next} (h : OutP μ st P w r res) : Out μ st P w r res := by
  cases r with
  | fail => trivial
  | val v st' => obtain ⟨rfl, v', h1, h2⟩ := h; exact ⟨v', μ, w, h1, h2, hW, Ext.refl μ _ w⟩
  | skip st' => obtain ⟨rfl, h1⟩ := h; exact ⟨μ, w, h1, hW, Ext.refl μ _ w⟩
  | enter f a s => exact absurd (show P.funcs.size < 0 from h) (by omega)
  | yield f a s => exact absurd (show P.funcs.size < 0 from h) (by omega)
  | defer d => exact absurd (show P.funcs.size < 0 from h) (by omega)

include hW in
theorem OutP.pure {P : Program} {v v' : Value} {r : Result Next} (h : r = .ok (.value v') w) (hv : VR μ v v') : OutP μ st P w (.val v st) r :=
  (fun _ => ⟨rfl, v', h, hv⟩) hW

include hW in
theorem OutP.ofV {P : Program} {x : Option Value} {r : Result Next} (h : ∀ v, x = some v → ∃ v', r = .ok (.value v') w ∧ VR μ v v') : OutP μ st P w (.ofV st x) r := by
  cases x with
  | none => trivial
  | some v => obtain ⟨v', h1, h2⟩ := h v rfl; exact OutP.pure hW h1 h2

theorem ptrOf_some {v : Value} {a : Addr} (h : ptrOf v = some a) : v = .pointer (some a) := by
  cases v with
  | pointer b => simp [ptrOf] at h; rw [h]
  | _ => simp [ptrOf] at h

theorem natV_some {v : Value} {n : Nat} (h : natV v = some n) : ∃ k, v = .int k (.ofNat n) := by
  cases v with
  | int k m => cases m with
    | ofNat m => simp [natV] at h; exact ⟨k, by rw [h]⟩
    | negSucc m => simp [natV] at h
  | _ => simp [natV] at h

theorem VR.ptr_inv {a : Addr} {v' : Value} (h : VR μ (.pointer (some a)) v') : ∃ l, μ a.block = some l ∧ v' = .pointer (some ⟨l.B, l.d + a.off, none⟩) ∧ a.spot = none := by
  cases h with
  | ptr e => exact ⟨_, e, rfl, rfl⟩

theorem VR.int_inv {k : IntKind} {n : Int} {v' : Value} (h : VR μ (.int k n) v') : v' = .int k n := by cases h; rfl
theorem VR.bool_inv {b : Bool} {v' : Value} (h : VR μ (.bool b) v') : v' = .bool b := by cases h; rfl

theorem add_place (B d o n : Nat) : (⟨B, d + o, none⟩ : Addr).add n = ⟨B, d + (o + n), none⟩ := by
  rw [add_plain, Nat.add_assoc]

theorem VR.addA {a : Addr} {l : Loc} (e : μ a.block = some l) (n : Nat) : VR μ (.pointer (some (addA a n))) (.pointer (some ((⟨l.B, l.d + a.off, none⟩ : Addr).add n))) := by
  rw [add_place]; exact .ptr e

include hW

theorem iIaddrS_out (P : Program) (k : Nat) {x i x' i' : Value} (hx : VR μ x x') (hi : VR μ i i') {t elem : TypeId}
    (hu : (underlying t).run P w = .ok (.slice elem) w) (hs : (sizeOf elem).run P w = .ok k w) :
    OutP μ st P w (iIaddrS k x i st) ((do let v ← Instr.indexAt t x' i'; pure (.value v) : Sem Next).run P w) := by
  cases x with
  | slice a len c =>
    cases a with
    | none => trivial
    | some a =>
      show OutP μ st P w (@Option.rec Nat (fun _ => R) .fail (fun i => @Bool.rec (fun _ => R) .fail (.val (.pointer (some (Ideal.addA a (Nat.mul i k)))) st) (Nat.blt i len)) (natV i)) _
      cases hn : natV i with
      | none => trivial
      | some n =>
        obtain ⟨kk, rfl⟩ := natV_some hn
        have := hi.int_inv; subst this
        show OutP μ st P w (@Bool.rec (fun _ => R) .fail (.val (.pointer (some (Ideal.addA a (Nat.mul n k)))) st) (Nat.blt n len)) _
        cases hb : Nat.blt n len with
        | false => trivial
        | true =>
          have hlt := blt_true.1 hb
          cases hx with
          | slice e hc =>
            refine OutP.pure hW ?_ (VR.addA e (n * k))
            simp [Instr.indexAt, asIntOf, hu, hs, Nat.not_le.2 hlt]
          | sliceE => omega
  | _ => trivial

theorem iIaddrA_out (P : Program) (len k : Nat) {x i x' i' : Value} (hx : VR μ x x') (hi : VR μ i i') {t elem : TypeId}
    (hu : (underlying t).run P w = .ok (.array len elem) w) (hs : (sizeOf elem).run P w = .ok k w) :
    OutP μ st P w (iIaddrA len k x i st) ((do let v ← Instr.indexAt t x' i'; pure (.value v) : Sem Next).run P w) := by
  show OutP μ st P w (@Option.rec Addr (fun _ => R) .fail (fun a => @Option.rec Nat (fun _ => R) .fail (fun i => @Bool.rec (fun _ => R) .fail (.val (.pointer (some (Ideal.addA a (Nat.mul i k)))) st) (Nat.blt i len)) (natV i)) (ptrOf x)) _
  cases hp : ptrOf x with
  | none => trivial
  | some a =>
    have := ptrOf_some hp; subst this
    obtain ⟨l, e, rfl, hs0⟩ := hx.ptr_inv
    show OutP μ st P w (@Option.rec Nat (fun _ => R) .fail (fun i => @Bool.rec (fun _ => R) .fail (.val (.pointer (some (Ideal.addA a (Nat.mul i k)))) st) (Nat.blt i len)) (natV i)) _
    cases hn : natV i with
    | none => trivial
    | some n =>
      obtain ⟨kk, rfl⟩ := natV_some hn
      have := hi.int_inv; subst this
      show OutP μ st P w (@Bool.rec (fun _ => R) .fail (.val (.pointer (some (Ideal.addA a (Nat.mul n k)))) st) (Nat.blt n len)) _
      cases hb : Nat.blt n len with
      | false => trivial
      | true =>
        have hlt := blt_true.1 hb
        refine OutP.pure hW ?_ (VR.addA e (n * k))
        simp [Instr.indexAt, Instr.sureAddr, asIntOf, hu, hs, Nat.not_le.2 hlt]

include hL

theorem iIaddr_out {t : TypeId} {x i x' i' : Value} (hx : VR μ x x') (hi : VR μ i i') :
    OutP μ st L.P w (iIaddr L t x i st) ((do let v ← Instr.indexAt t x' i'; pure (.value v) : Sem Next).run L.P w) := by
  unfold iIaddr
  cases hd : L.und t with
  | none => trivial
  | some d =>
    cases d with
    | slice elem =>
      simp only
      cases hs : szOf L elem with
      | none => trivial
      | some k => exact iIaddrS_out hW L.P k hx hi (hL.run_und hd) (hL.run_size hs)
    | array len elem =>
      simp only
      cases hs : szOf L elem with
      | none => trivial
      | some k => exact iIaddrA_out hW L.P len k hx hi (hL.run_und hd) (hL.run_size hs)
    | _ => trivial

omit hW in
theorem fieldOf_run {s : TypeId} {f : Nat} {fd : Field} (h : fieldOf L s f = some fd) : ∃ fs, (underlying s).run L.P w = .ok (.struct fs) w ∧ fs[f]? = some fd := by
  unfold fieldOf at h
  cases hd : L.und s with
  | none => simp [hd] at h
  | some d =>
    cases d with
    | struct fs => simp only [hd, nth_eq] at h; exact ⟨fs, hL.run_und hd, by simpa using h⟩
    | _ => simp [hd] at h

theorem iFieldAddr_out {s : TypeId} {f : Nat} {x x' : Value} (hx : VR μ x x') :
    OutP μ st L.P w (iFieldAddr L s f x st) ((do let v ← Instr.fieldAt s x' f; pure (.value v) : Sem Next).run L.P w) := by
  unfold iFieldAddr
  cases ho : offOf L s f with
  | none => trivial
  | some n =>
    show OutP μ st L.P w (@Option.rec Addr (fun _ => R) .fail (fun a => .val (.pointer (some (Ideal.addA a n))) st) (ptrOf x)) _
    cases hp : ptrOf x with
    | none => trivial
    | some a =>
      have := ptrOf_some hp; subst this
      obtain ⟨l, e, rfl, hs0⟩ := hx.ptr_inv
      refine OutP.pure hW ?_ (VR.addA e n)
      unfold offOf at ho
      cases hf : fieldOf L s f with
      | none => simp [hf] at ho
      | some fd =>
        simp only [hf] at ho
        cases hz : szOf L fd.type with
        | none => simp [hz] at ho
        | some z =>
          cases z with
          | zero => simp [hz] at ho
          | succ z =>
            simp [hz] at ho
            obtain ⟨fs, hu, hfs⟩ := fieldOf_run (w := w) hL hf
            simp [Instr.fieldAt, Instr.sureAddr, hu, hfs, fieldPlace, hL.run_size hz, ho]

omit hW in
theorem part_run {t : TypeId} {cs cs' : List Value} (hr : VsR μ cs cs') {off : Nat} {v : Value} (h : part L t cs off = some v) :
    ∃ v', (Go.part t cs'.toArray off).run L.P w = .ok v' w ∧ VR μ v v' := by
  unfold part at h
  cases ha : aggOf L t with
  | none => simp [ha] at h
  | some b =>
    cases b with
    | true =>
      cases hz : szOf L t with
      | none => simp [ha, hz] at h
      | some n =>
        simp [ha, hz] at h
        subst h
        refine ⟨.agg (cs'.toArray.extract off (off + n)), ?_, .agg ?_⟩
        · simp [Go.part, hL.run_agg ha, hL.run_size hz]
        · simpa using (hr.drop off).take n
    | false =>
      have h' : nth cs off = some v := by
        cases hz : szOf L t <;> simpa [ha, hz] using h
      rw [nth_eq] at h'
      obtain ⟨v', h1, h2⟩ := hr.get h'
      refine ⟨v', ?_, h2⟩
      simp [Go.part, hL.run_agg ha, h1]

theorem iField_out {t : TypeId} {f : Nat} {x x' : Value} (hx : VR μ x x') :
    OutP μ st L.P w (iField L t f x st) ((do let v ← Instr.field t x' f; pure (.value v) : Sem Next).run L.P w) := by
  unfold iField
  cases hf : fieldOf L t f with
  | none => trivial
  | some fd =>
    cases x with
    | agg cs =>
      cases hx with
      | agg hr =>
        rename_i cs'
        refine OutP.ofV hW fun v hv => ?_
        obtain ⟨v', h1, h2⟩ := part_run (w := w) hL hr hv
        obtain ⟨fs, hu, hfs⟩ := fieldOf_run (w := w) hL hf
        have h1' : (Go.part fd.type cs' fd.offset).run L.P w = .ok v' w := by simpa using h1
        exact ⟨v', by simp [Instr.field, hu, hfs, asAgg, h1'], h2⟩
    | _ => trivial

theorem indexV_out {t : TypeId} {x i x' i' : Value} (hx : VR μ x x') (hi : VR μ i i') :
    OutP μ st L.P w (.ofV st (indexV L t x i)) ((do let v ← Instr.index t x' i'; pure (.value v) : Sem Next).run L.P w) := by
  refine OutP.ofV hW fun v hv => ?_
  unfold indexV at hv
  cases i with
  | int k n =>
    cases n with
    | negSucc n => simp at hv
    | ofNat n =>
      have := hi.int_inv; subst this
      simp only at hv
      cases hd : L.und t with
      | none => simp [hd] at hv
      | some d =>
        cases d with
        | array len elem =>
          cases x with
          | agg cs =>
            simp only [hd] at hv
            cases hb : Nat.blt n len with
            | false => simp [hb] at hv
            | true =>
              cases hz : szOf L elem with
              | none => simp [hb, hz] at hv
              | some z =>
                simp only [hb, hz] at hv
                cases hx with
                | agg hr =>
                  rename_i cs'
                  obtain ⟨v', h1, h2⟩ := part_run (w := w) hL hr hv
                  have h1' : (Go.part elem cs' (n * z)).run L.P w = .ok v' w := by simpa using h1
                  have hlt := blt_true.1 hb
                  exact ⟨v', by simp [Instr.index, asIntOf, hL.run_und hd, hL.run_size hz, Nat.not_le.2 hlt, h1'], h2⟩
          | _ => simp [hd] at hv
        | string =>
          cases x with
          | string s =>
            simp only [hd, nth_eq] at hv
            cases hs : s.data.toList[n]? with
            | none => simp [hs] at hv
            | some b =>
              simp [hs] at hv
              subst hv
              cases hx
              refine ⟨_, ?_, .int _ _⟩
              have hs' : s[n]? = some b := by
                have hlt : n < s.data.toList.length := by
                  rcases Nat.lt_or_ge n s.data.toList.length with h | h
                  · exact h
                  · simp [List.getElem?_eq_none h] at hs
                have : n < s.size := by simpa using hlt
                rw [getElem?_pos s n this]
                have h2 : s.data[n]? = some b := by simpa using hs
                rw [Array.getElem?_eq_getElem (by simpa using hlt)] at h2
                exact h2
              simp [Instr.index, asIntOf, hL.run_und hd, hs']
          | _ => simp [hd] at hv
        | _ => simp [hd] at hv
  | _ => simp at hv

end
end Go.Ideal

/-
What an operation comes to over the ideal heap, it comes to in the machine: operations on numbers, comparisons.
-/
namespace Go.Ideal
open Go

theorem same_eq {k k' : IntKind} (h : same k k' = true) : k = k' := by
  revert h; cases k <;> cases k' <;> decide

theorem wrap_lt {k : IntKind} {n : Nat} (h : n < 2 ^ k.bits) (h' : k.signed = true → n < 2 ^ (k.bits - 1)) : k.wrap (Int.ofNat n) = Int.ofNat n := by
  have e : (Int.ofNat n) % ((2 : Int) ^ k.bits) = Int.ofNat n := Int.emod_eq_of_lt (Int.natCast_nonneg n) (by rw [Int.ofNat_eq_natCast]; exact_mod_cast h)
  unfold IntKind.wrap
  simp only [e]
  cases hs : k.signed with
  | false => simp
  | true =>
    have h2 : (Int.ofNat n) < ((2 : Int) ^ (k.bits - 1)) := by rw [Int.ofNat_eq_natCast]; exact_mod_cast h' hs
    rw [if_neg]
    simp only [Bool.true_and, decide_eq_true_eq, ge_iff_le, Int.not_le]
    exact h2

theorem wrap_in {k : IntKind} {n : Nat} (h : inK k n = true) : k.wrap (Int.ofNat n) = Int.ofNat n := by
  cases k with
  | i8 => simp [inK] at h
  | i16 => simp [inK] at h
  | u16 => simp [inK] at h
  | i32 => have := blt_true.1 h; refine wrap_lt ?_ fun _ => ?_ <;> simp only [IntKind.bits] <;> omega
  | i64 => have := blt_true.1 h; refine wrap_lt ?_ fun _ => ?_ <;> simp only [IntKind.bits] <;> omega
  | u8 => have := blt_true.1 h; exact wrap_lt (by simp only [IntKind.bits]; omega) fun h0 => by simp [IntKind.signed] at h0
  | u32 => have := blt_true.1 h; exact wrap_lt (by simp only [IntKind.bits]; omega) fun h0 => by simp [IntKind.signed] at h0
  | u64 => have := blt_true.1 h; exact wrap_lt (by simp only [IntKind.bits]; omega) fun h0 => by simp [IntKind.signed] at h0

theorem inK_bits {k : IntKind} {n : Nat} (h : inK k n = true) : n < 2 ^ k.bits := by
  cases k with
  | i8 => simp [inK] at h
  | i16 => simp [inK] at h
  | u16 => simp [inK] at h
  | i32 => have := blt_true.1 h; simp only [IntKind.bits]; omega
  | i64 => have := blt_true.1 h; simp only [IntKind.bits]; omega
  | u8 => have := blt_true.1 h; simp only [IntKind.bits]; omega
  | u32 => have := blt_true.1 h; simp only [IntKind.bits]; omega
  | u64 => have := blt_true.1 h; simp only [IntKind.bits]; omega

theorem inK_le {k : IntKind} {m n : Nat} (h : inK k n = true) (hm : m ≤ n) : inK k m = true := by
  cases k with
  | i8 => simp [inK] at h
  | i16 => simp [inK] at h
  | u16 => simp [inK] at h
  | i32 => exact blt_true.2 (Nat.lt_of_le_of_lt hm (blt_true.1 h))
  | i64 => exact blt_true.2 (Nat.lt_of_le_of_lt hm (blt_true.1 h))
  | u8 => exact blt_true.2 (Nat.lt_of_le_of_lt hm (blt_true.1 h))
  | u32 => exact blt_true.2 (Nat.lt_of_le_of_lt hm (blt_true.1 h))
  | u64 => exact blt_true.2 (Nat.lt_of_le_of_lt hm (blt_true.1 h))

theorem iff_some {b : Bool} {x : Option Value} {v : Value} (h : Ideal.iff b x = some v) : b = true ∧ x = some v := by
  cases b with
  | true => exact ⟨rfl, h⟩
  | false => cases h

theorem okK_some {k : IntKind} {n : Nat} {v : Value} (h : okK k n = some v) : inK k n = true ∧ v = .int k (.ofNat n) := by
  unfold okK at h
  cases hk : inK k n with
  | false => rw [hk] at h; cases h
  | true => rw [hk] at h; cases h; exact ⟨rfl, rfl⟩

theorem ofInt_nat {n a : Nat} (h : a < 2 ^ n) : (BitVec.ofInt n (Int.ofNat a)).toNat = a := by
  simp
  exact Nat.mod_eq_of_lt h

theorem natOf_some {x : Value} {f : IntKind → Nat → Option Value} {v : Value} (h : natOf x f = some v) : ∃ k n, x = .int k (.ofNat n) ∧ f k n = some v := by
  cases x with
  | int k m => cases m with
    | ofNat m => exact ⟨k, m, rfl, h⟩
    | negSucc m => cases h
  | _ => cases h

theorem fast_run {op : BinOp} {x y v : Value} (h : fast op x y = some v) (P : Program) (t : TypeId) (xo yo : Operand) (w : World) :
    (do eqGuard op t xo yo x y; Go.binOp op t x y : Sem Value).run P w = .ok v w := by
  obtain ⟨k, a, hx, h1⟩ := natOf_some h
  obtain ⟨k', b, hy, h2⟩ := natOf_some h1
  clear h h1
  subst hx; subst hy
  have h := h2; clear h2
  have hg : (eqGuard op t xo yo (.int k (.ofNat a)) (.int k' (.ofNat b))).run P w = .ok () w := by
    unfold eqGuard; cases op <;> simp
  rw [Sem.run_bind, hg, Result.andThen_ok]
  cases op with
  | add =>
    obtain ⟨h1, h2⟩ := iff_some h; obtain ⟨h3, rfl⟩ := okK_some h2
    have := same_eq h1; subst this
    have := wrap_in h3
    simp only [Int.ofNat_eq_natCast] at this
    simp [Go.binOp, Op.intArith]
    simpa using this
  | sub =>
    obtain ⟨h1, h2⟩ := iff_some h; obtain ⟨h4, h2⟩ := iff_some h2; obtain ⟨h3, rfl⟩ := okK_some h2
    have := same_eq h1; subst this
    have := wrap_in h3
    have hle : b ≤ a := Nat.le_of_ble_eq_true h4
    simp [Go.binOp, Op.intArith]
    rw [← Int.ofNat_sub hle]; simpa using this
  | mul =>
    obtain ⟨h1, h2⟩ := iff_some h; obtain ⟨h3, rfl⟩ := okK_some h2
    have := same_eq h1; subst this
    have := wrap_in h3
    simp [Go.binOp, Op.intArith]
    simpa using this
  | and =>
    obtain ⟨h1, h2⟩ := iff_some h; obtain ⟨h4, h2⟩ := iff_some h2; obtain ⟨h5, h2⟩ := iff_some h2; obtain ⟨h3, rfl⟩ := okK_some h2
    have := same_eq h1; subst this
    have := wrap_in h3
    simp only [Go.binOp, ne_eq, not_true_eq_false, if_false, Op.intBits, BitVec.toNat_and, ofInt_nat (inK_bits h4), ofInt_nat (inK_bits h5), Sem.run_pure]
    rw [show ((a &&& b : Nat) : Int) = Int.ofNat (Nat.land a b) from rfl, this]
  | or =>
    obtain ⟨h1, h2⟩ := iff_some h; obtain ⟨h4, h2⟩ := iff_some h2; obtain ⟨h5, h2⟩ := iff_some h2; obtain ⟨h3, rfl⟩ := okK_some h2
    have := same_eq h1; subst this
    have := wrap_in h3
    simp only [Go.binOp, ne_eq, not_true_eq_false, if_false, Op.intBits, BitVec.toNat_or, ofInt_nat (inK_bits h4), ofInt_nat (inK_bits h5), Sem.run_pure]
    rw [show ((a ||| b : Nat) : Int) = Int.ofNat (Nat.lor a b) from rfl, this]
  | shl =>
    obtain ⟨h1, h2⟩ := iff_some h; obtain ⟨h3, rfl⟩ := okK_some h2
    have hb := blt_true.1 h1
    have := wrap_in h3
    have hm : min b k.bits = b := by have : 8 ≤ k.bits := by cases k <;> decide
                                     omega
    have hneg : ¬ (Int.ofNat b < 0) := by simp
    simp only [Go.binOp, Op.shift]
    rw [if_neg hneg, show (Int.ofNat b).toNat = b from rfl, hm,
      show (Int.ofNat a) * 2 ^ b = Int.ofNat (Nat.mul a (Nat.pow 2 b)) by simp [Int.natCast_mul, Int.natCast_pow], this]
    rfl
  | shr =>
    obtain ⟨h1, h2⟩ := iff_some h; obtain ⟨h4, h2⟩ := iff_some h2; obtain ⟨h5, h2⟩ := iff_some h2; obtain ⟨h3, rfl⟩ := okK_some h2
    have := same_eq h4; subst this
    have hb : b ≤ 63 := Nat.le_of_ble_eq_true h1
    have hm : min b (IntKind.u64).bits = b := by simp [IntKind.bits]; omega
    have hneg : ¬ (Int.ofNat b < 0) := by simp
    simp only [Go.binOp, Op.shift]
    rw [if_neg hneg, show (Int.ofNat b).toNat = b from rfl, hm, show ((2 : Int) ^ b) = ((2 ^ b : Nat) : Int) by simp, Int.fdiv_eq_ediv_of_nonneg _ (Int.natCast_nonneg _)]
    rfl
  | eql =>
    obtain ⟨h1, h2⟩ := iff_some h; cases h2
    have := same_eq h1; subst this
    simp only [Go.binOp, ne_eq, not_true_eq_false, if_false, Op.intCmp, Sem.run_pure]
    congr 2
    rw [Bool.eq_iff_iff]; simp [Int.ofNat_inj]
  | neq =>
    obtain ⟨h1, h2⟩ := iff_some h; cases h2
    have := same_eq h1; subst this
    simp only [Go.binOp, ne_eq, not_true_eq_false, if_false, Op.intCmp, Sem.run_pure]
    congr 2
    rw [Bool.eq_iff_iff]; simp [Int.ofNat_inj, ← Bool.not_eq_true, Nat.beq_eq]
  | lss =>
    obtain ⟨h1, h2⟩ := iff_some h; cases h2
    have := same_eq h1; subst this
    simp only [Go.binOp, ne_eq, not_true_eq_false, if_false, Op.intCmp, Sem.run_pure]
    congr 2
    rw [Bool.eq_iff_iff, blt_true]; simp
  | leq =>
    obtain ⟨h1, h2⟩ := iff_some h; cases h2
    have := same_eq h1; subst this
    simp only [Go.binOp, ne_eq, not_true_eq_false, if_false, Op.intCmp, Sem.run_pure]
    congr 2
    rw [Bool.eq_iff_iff, Nat.ble_eq]; simp
  | gtr =>
    obtain ⟨h1, h2⟩ := iff_some h; cases h2
    have := same_eq h1; subst this
    simp only [Go.binOp, ne_eq, not_true_eq_false, if_false, Op.intCmp, Sem.run_pure]
    congr 2
    rw [Bool.eq_iff_iff, blt_true]; simp
  | geq =>
    obtain ⟨h1, h2⟩ := iff_some h; cases h2
    have := same_eq h1; subst this
    simp only [Go.binOp, ne_eq, not_true_eq_false, if_false, Op.intCmp, Sem.run_pure]
    congr 2
    rw [Bool.eq_iff_iff, Nat.ble_eq]; simp
  | _ => cases h

end Go.Ideal

/-
What an operation comes to over the ideal heap, it comes to in the machine: comparisons, interfaces, tuples.
-/
namespace Go.Ideal
open Go

theorem run_v {P : Program} {s : Sem Value} {v : Value} {w w' : World} (h : s.run P w = .ok v w') : (do let v ← s; pure (.value v) : Sem Next).run P w = .ok (.value v) w' := by
  simp [h]

theorem eqBin_some {op : BinOp} {b : Bool} (h : eqBin op = some b) : (op = .eql ∧ b = true) ∨ (op = .neq ∧ b = false) := by
  cases op <;> simp [eqBin] at h <;> simp [h]

theorem pureV_run {P : Program} {s : Sem Value} {v : Value} (h : pureV P s = some v) (w : World) : s.run P w = .ok v w ∧ flat v = true := by
  unfold pureV at h
  cases hp : pureRun P s with
  | none => simp [hp, okFlat] at h
  | some v' =>
    cases hf : flat v' with
    | false => simp [hp, okFlat, hf] at h
    | true => simp [hp, okFlat, hf] at h; subst h; exact ⟨pureRun_run hp w, hf⟩

section
variable {L : Pg} (hL : LOk L) {μ : Map} {st : ISt} {w : World} (hW : WR μ st w)
include hL

theorem eqNil_run {t : TypeId} {d : TypeDesc} (hd : L.und t = some d) {x y x' y' : Value} {b : Bool} (h : eqNil L d x y = some b) (hx : VR μ x x') (hy : VR μ y y') :
    (Op.equal t x' y').run L.P w = .ok b w := by
  have hu := hL.run_und (w := w) hd
  show (Op.equalIn (9999 + 1) t x' y').run L.P w = _
  have key : ∀ {β : Type} (f : TypeDesc → Sem β), (underlying t >>= f).run L.P w = (f d).run L.P w := by
    intro β f; rw [Sem.run_bind, hu, Result.andThen_ok]
  unfold Op.equalIn
  rw [key]
  unfold eqNil at h
  split at h
  · cases h; cases hx; cases hy; rfl
  · cases h; cases hx; cases hy; rfl
  · rename_i e a b0
    cases hz : szOf L e with
    | none => simp [hz] at h
    | some n => cases n with
      | zero => simp [hz] at h
      | succ n =>
        simp only [hz] at h
        cases h1 : Nat.beq a.block b0.block with
        | false => simp [h1] at h
        | true =>
          cases h2 : Nat.beq a.off b0.off with
          | false => simp [h1, h2] at h
          | true =>
            simp only [h1, h2] at h; cases h
            obtain ⟨l, e1, rfl, _⟩ := hx.ptr_inv
            obtain ⟨l', e2, rfl, _⟩ := hy.ptr_inv
            have hb := Nat.eq_of_beq_eq_true h1
            have ho := Nat.eq_of_beq_eq_true h2
            rw [hb, e2] at e1; cases e1
            simp [hL.run_size hz, sameAddr, ho]
  · cases h; cases hx; cases hy <;> rfl
  · cases h; cases hy; cases hx <;> rfl
  · cases h; cases hx; cases hy; rfl
  · cases h; cases hx; cases hy; rfl
  · cases h; cases hx; cases hy; rfl
  · cases h; cases hx; cases hy; rfl
  · cases h; cases hx; cases hy; rfl
  · cases h; cases hx; cases hy; rfl
  · cases h

theorem binNil_run {t : TypeId} {d : TypeDesc} (hd : L.und t = some d) {x y x' y' : Value} {b : Bool} (h : eqNil L d x y = some b) (hx : VR μ x x') (hy : VR μ y y')
    {op : BinOp} {neg : Bool} (ho : eqBin op = some neg) (xo yo : Operand) : (do eqGuard op t xo yo x' y'; Go.binOp op t x' y' : Sem Value).run L.P w = .ok (bxor neg b) w := by
  have he := eqNil_run (w := w) hL hd h hx hy
  have hg : (eqGuard op t xo yo x' y').run L.P w = .ok () w := by
    unfold eqNil at h
    split at h <;> first | (cases h; done) | (cases hx <;> cases hy <;> rcases eqBin_some ho with ⟨rfl, _⟩ | ⟨rfl, _⟩ <;> simp [eqGuard])
  rw [Sem.run_bind, hg, Result.andThen_ok]
  have hb : ∀ (op : BinOp), op = .eql ∨ op = .neq → Go.binOp op t x' y' = (do let r ← Op.equal t x' y'; pure (.bool (match op with | .eql => r | _ => !r))) := by
    intro op hop
    unfold eqNil at h
    split at h <;> first | (cases h; done) | (cases hx <;> cases hy <;> rcases hop with rfl | rfl <;> rfl)
  rcases eqBin_some ho with ⟨rfl, rfl⟩ | ⟨rfl, rfl⟩
  · rw [hb _ (.inl rfl)]; simp [he, bxor]
  · rw [hb _ (.inr rfl)]; simp [he, bxor]

theorem binSlow_out {op : BinOp} {t : TypeId} {xo yo : Operand} {x y x' y' v : Value} (h : binSlow L op t xo yo x y = some v) (hx : VR μ x x') (hy : VR μ y y') :
    ∃ v', (do eqGuard op t xo yo x' y'; Go.binOp op t x' y' : Sem Value).run L.P w = .ok v' w ∧ VR μ v v' := by
  have pure : x' = x → y' = y → binPure L op t xo yo x y = some v → ∃ v', (do eqGuard op t xo yo x' y'; Go.binOp op t x' y' : Sem Value).run L.P w = .ok v' w ∧ VR μ v v' := by
    intro ex ey hp
    subst ex; subst ey
    obtain ⟨h1, h2⟩ := pureV_run hp w
    exact ⟨v, h1, VR.flat_refl h2⟩
  unfold binSlow at h
  split at h
  · rename_i hfx hfy
    exact pure (hx.flat hfx) (hy.flat hfy) h
  · cases ho : eqBin op with
    | none => simp [ho] at h
    | some neg =>
      simp only [ho] at h
      split at h
      · rename_i xs ys
        split at h
        · rename_i h1 h2
          cases hx with
          | agg rx =>
            cases hy with
            | agg ry =>
              refine pure ?_ ?_ h
              · have := rx.flat h1; exact congrArg Value.agg (Array.ext' this)
              · have := ry.flat h2; exact congrArg Value.agg (Array.ext' this)
        · cases h
      · cases hd : L.und t with
        | none => simp [hd] at h
        | some d =>
          simp only [hd] at h
          cases he : eqNil L d x y with
          | none => simp [he] at h
          | some b =>
            simp only [he] at h; cases h
            exact ⟨_, binNil_run hL hd he hx hy ho xo yo, .bool _⟩

omit hL in
theorem fast_flat {op : BinOp} {x y v : Value} (h : fast op x y = some v) : flat x = true ∧ flat y = true ∧ flat v = true := by
  obtain ⟨k, a, hx, h1⟩ := natOf_some h
  obtain ⟨k', b, hy, h2⟩ := natOf_some h1
  clear h h1
  subst hx; subst hy
  refine ⟨rfl, rfl, ?_⟩
  have h := h2; clear h2
  have ok : ∀ {k n}, okK k n = some v → flat v = true := fun h => by obtain ⟨_, rfl⟩ := okK_some h; rfl
  cases op with
  | add => exact ok (iff_some h).2
  | sub => exact ok (iff_some (iff_some h).2).2
  | mul => exact ok (iff_some h).2
  | and => exact ok (iff_some (iff_some (iff_some h).2).2).2
  | or => exact ok (iff_some (iff_some (iff_some h).2).2).2
  | shl => exact ok (iff_some h).2
  | shr => exact ok (iff_some (iff_some (iff_some h).2).2).2
  | eql => obtain ⟨_, h⟩ := iff_some h; cases h; rfl
  | neq => obtain ⟨_, h⟩ := iff_some h; cases h; rfl
  | lss => obtain ⟨_, h⟩ := iff_some h; cases h; rfl
  | leq => obtain ⟨_, h⟩ := iff_some h; cases h; rfl
  | gtr => obtain ⟨_, h⟩ := iff_some h; cases h; rfl
  | geq => obtain ⟨_, h⟩ := iff_some h; cases h; rfl
  | _ => cases h

include hW in
theorem iBin_out {op : BinOp} {t : TypeId} {xo yo : Operand} {x y x' y' : Value} (hx : VR μ x x') (hy : VR μ y y') :
    OutP μ st L.P w (iBin L op t xo yo x y st) ((do let v ← (do eqGuard op t xo yo x' y'; Go.binOp op t x' y'); pure (.value v) : Sem Next).run L.P w) := by
  unfold iBin
  cases hf : fast op x y with
  | some v =>
    obtain ⟨h1, h2, h3⟩ := fast_flat hf
    have ex := hx.flat h1; have ey := hy.flat h2; subst ex; subst ey
    exact OutP.pure hW (run_v (fast_run hf L.P t xo yo w)) (VR.flat_refl h3)
  | none =>
    exact OutP.ofV hW fun v hv => let ⟨v', h1, h2⟩ := binSlow_out hL hv hx hy; ⟨v', run_v h1, h2⟩

omit hL in
include hW in
theorem iUn_out {op : UnOp} {x x' : Value} (hx : VR μ x x') : OutP μ st L.P w (iUn L op x st) ((do let v ← Op.unary op x'; pure (.value v) : Sem Next).run L.P w) := by
  unfold iUn
  cases hf : flat x with
  | false => trivial
  | true =>
    have ex := hx.flat hf; subst ex
    exact OutP.ofV hW fun v hv => let ⟨h1, h2⟩ := pureV_run hv w; ⟨v, run_v h1, VR.flat_refl h2⟩

include hW in
theorem iIface_out {t : TypeId} {x x' : Value} (hx : VR μ x x') : OutP μ st L.P w (iIface L t x st) ((do let v ← Instr.makeInterface t x'; pure (.value v) : Sem Next).run L.P w) := by
  unfold iIface
  cases hd : L.und t with
  | none => trivial
  | some d =>
    cases d <;> first | trivial | exact OutP.pure hW (by simp [Instr.makeInterface, hL.run_und hd]) (.iface t hx)

omit hL in
include hW in
theorem iExt_out {P : Program} {x x' : Value} {i : Nat} (hx : VR μ x x') : OutP μ st P w (iExt x i st) ((do let v ← Instr.extract x' i; pure (.value v) : Sem Next).run P w) := by
  cases x with
  | tuple vs =>
    cases hx with
    | tuple hr =>
      show OutP μ st P w (.ofV st (nthV vs.toList i)) _
      refine OutP.ofV hW fun v hv => ?_
      rw [nthV_eq] at hv
      obtain ⟨v', h1, h2⟩ := hr.get hv
      refine ⟨v', ?_, h2⟩
      have h1' : _ := h1
      rw [Array.getElem?_toList] at h1'
      simp [Instr.extract, h1']
  | _ => trivial

omit hL in
include hW in
theorem iPick_out {P : Program} {c a b c' a' b' : Value} (hc : VR μ c c') (ha : VR μ a a') (hb : VR μ b b') :
    OutP μ st P w (iPick c a b st) ((do pure (.value (if ← asBool c' then a' else b')) : Sem Next).run P w) := by
  cases c with
  | bool x =>
    have := hc.bool_inv; subst this
    cases x with
    | true => exact OutP.pure hW (by simp [asBool]) ha
    | false => exact OutP.pure hW (by simp [asBool]) hb
  | _ => trivial

omit hL in
include hW in
theorem iNil_out {P : Program} {x x' : Value} (hx : VR μ x x') {s : Sem Next} (hs : ∀ y, (∃ a, y = .pointer (some a)) ∨ (∃ t v, y = .iface t v) ∨ (∃ f a b, y = .func f a b ∧ ∀ n, f ≠ .method n) → x' = y → s.run P w = .ok (.value y) w) :
    OutP μ st P w (iNil x st) (s.run P w) := by
  cases x with
  | pointer a =>
    cases a with
    | none => trivial
    | some a =>
      obtain ⟨l, e, rfl, h⟩ := hx.ptr_inv
      refine OutP.pure hW (hs _ (.inl ⟨_, rfl⟩) rfl) ?_
      obtain ⟨b, o, sp⟩ := a
      simp only at h; subst h
      exact .ptr e
  | iface t v =>
    cases hx with
    | iface t hv => exact OutP.pure hW (hs _ (.inr (.inl ⟨t, _, rfl⟩)) rfl) (.iface t hv)
  | func f a b =>
    cases hx with
    | func hf ha hb =>
      cases f with
      | method n => trivial
      | _ =>
        refine OutP.pure hW (hs _ (.inr (.inr ⟨_, _, _, rfl, ?_⟩)) rfl) (.func hf ha hb)
        cases hf <;> intro n h <;> cases h
  | _ => trivial

omit hL in
include hW in
theorem iMakeFn_out {P : Program} {f : Fn} {a b a' b' : Array Value} (ha : VsR μ a.toList a'.toList) (hb : VsR μ b.toList b'.toList) :
    OutP μ st P w (iMakeFn f a b st) ((do let v ← Instr.makeFunc f a' b'; pure (.value v) : Sem Next).run P w) := by
  cases f <;> first | trivial | exact OutP.pure hW rfl (.func (by constructor) ha hb)

end
end Go.Ideal

/-
What an operation comes to over the ideal heap, it comes to in the machine: slices, lengths, type assertions.
-/
namespace Go.Ideal
open Go

inductive OptR (μ : Map) : Option Value → Option Value → Prop where
  | none : OptR μ none none
  | some {v v' : Value} : VR μ v v' → OptR μ (some v) (some v')

theorem bound_run {μ : Map} {x x' : Option Value} {dflt y i : Nat} (h : bound x dflt y = some i) (hx : OptR μ x x') :
    (x' = none ∧ i = dflt) ∨ (i ≤ y ∧ ∃ k, x' = some (.int k (.ofNat i))) := by
  cases hx with
  | none => simp [bound] at h; exact .inl ⟨rfl, h.symm⟩
  | some hv =>
    rename_i v v'
    cases v with
    | int k n =>
      cases n with
      | ofNat n =>
        simp only [bound] at h
        cases hb : Nat.ble n y with
        | false => simp [hb] at h
        | true =>
          simp [hb] at h; subst h
          have := hv.int_inv; subst this
          exact .inr ⟨Nat.le_of_ble_eq_true hb, k, rfl⟩
      | negSucc n => simp [bound] at h
    | _ => simp [bound] at h

theorem sliceBound_run {P : Program} {w : World} {k : IntKind} {i y : Nat} (h : i ≤ y) (code : BoundsCode) : (Instr.sliceBound (.int k (.ofNat i)) y code).run P w = .ok i w := by
  simp [Instr.sliceBound, asIntOf]
  intro h'; omega

theorem bounds_run {μ : Map} {lo hi lo' hi' : Option Value} {dflt top l h : Nat} (hb : bounds lo hi dflt top = some (l, h)) (hlo : OptR μ lo lo') (hhi : OptR μ hi hi')
    {cap : Nat} (hc : top ≤ cap) : l ≤ h ∧ (h = dflt ∨ h ≤ top) ∧ ∀ (isSlice : Bool) (P : Program) (w : World), (Instr.sliceBounds isSlice dflt cap lo' hi' none).run P w = .ok (l, h, cap) w := by
  unfold bounds at hb
  cases h1 : bound hi dflt top with
  | none => simp [h1] at hb
  | some h0 =>
    simp only [h1] at hb
    cases h2 : bound lo 0 h0 with
    | none => simp [h2] at hb
    | some l0 =>
      simp [h2] at hb
      obtain ⟨rfl, rfl⟩ := hb
      rcases bound_run h1 hhi with ⟨rfl, rfl⟩ | ⟨hle, k, rfl⟩
      · rcases bound_run h2 hlo with ⟨rfl, rfl⟩ | ⟨hle2, k2, rfl⟩
        · exact ⟨Nat.zero_le _, .inl rfl, fun _ _ _ => by simp [Instr.sliceBounds]⟩
        · exact ⟨hle2, .inl rfl, fun _ _ _ => by simp [Instr.sliceBounds, sliceBound_run hle2, -Int.ofNat_eq_natCast]⟩
      · have hle' : h0 ≤ cap := Nat.le_trans hle hc
        rcases bound_run h2 hlo with ⟨rfl, rfl⟩ | ⟨hle2, k2, rfl⟩
        · exact ⟨Nat.zero_le _, .inr hle, fun _ _ _ => by simp [Instr.sliceBounds, sliceBound_run hle', -Int.ofNat_eq_natCast]⟩
        · exact ⟨hle2, .inr hle, fun _ _ _ => by simp [Instr.sliceBounds, sliceBound_run hle', sliceBound_run hle2, -Int.ofNat_eq_natCast]⟩

theorem bounds3_run {μ : Map} {v0 hv v0' hv' : Value} {lo lo' : Option Value} {m0 m l h : Nat} (hm : bound (some v0) 0 m0 = some m) (hmx : VR μ v0 v0') (hb : bounds lo (some hv) 0 m = some (l, h)) (hlo : OptR μ lo lo') (hhi : VR μ hv hv')
    {cap : Nat} (hc : m0 ≤ cap) : l ≤ h ∧ h ≤ m ∧ m ≤ m0 ∧ ∀ (isSlice : Bool) (dflt : Nat) (P : Program) (w : World), (Instr.sliceBounds isSlice dflt cap lo' (some hv') (some v0')).run P w = .ok (l, h, m) w := by
  rcases bound_run hm (.some hmx) with ⟨h0, _⟩ | ⟨hle0, k0, e0⟩
  · cases h0
  cases e0
  unfold bounds at hb
  cases h1 : bound (some hv) 0 m with
  | none => simp [h1] at hb
  | some h0 =>
    simp only [h1] at hb
    cases h2 : bound lo 0 h0 with
    | none => simp [h2] at hb
    | some l0 =>
      simp [h2] at hb
      obtain ⟨rfl, rfl⟩ := hb
      rcases bound_run h1 (.some hhi) with ⟨h3, _⟩ | ⟨hle, k, e1⟩
      · cases h3
      cases e1
      have hle' : m ≤ cap := Nat.le_trans hle0 hc
      rcases bound_run h2 hlo with ⟨rfl, rfl⟩ | ⟨hle2, k2, rfl⟩
      · exact ⟨Nat.zero_le _, hle, hle0, fun _ _ _ _ => by simp [Instr.sliceBounds, sliceBound_run hle', sliceBound_run hle, -Int.ofNat_eq_natCast]⟩
      · exact ⟨hle2, hle, hle0, fun _ _ _ _ => by simp [Instr.sliceBounds, sliceBound_run hle', sliceBound_run hle, sliceBound_run hle2, -Int.ofNat_eq_natCast]⟩

/-- what a slice of known room comes to -/
theorem sliceK_ok {μ : Map} {a a' : Option Addr} {n c c' : Nat} (hx : VR μ (.slice a n c) (.slice a' n c')) {m l h k : Nat} (hmc : m ≤ c') (hlm : l ≤ h) {v : Value} (hv : sliceK a m l h k = some v) (he : n = 0 ∧ c' = 0 → h = 0 ∧ m = 0) :
    VR μ v (.slice (if m = l then a' else a'.map (·.add (l * k))) (h - l) (m - l)) := by
  unfold sliceK at hv
  cases hb : Nat.blt m UNK with
  | false => simp [hb] at hv
  | true =>
    have hlt := blt_true.1 hb
    simp [hb] at hv
    subst hv
    cases hx with
    | sliceNil n c =>
      cases hq : Nat.beq m l <;> simp <;> exact .sliceNil _ _
    | slice e hc =>
      cases hq : Nat.beq m l with
      | true =>
        have := Nat.eq_of_beq_eq_true hq
        rw [if_pos this]
        exact .slice e (.inl ⟨by omega, rfl⟩)
      | false =>
        have : m ≠ l := fun h => by rw [h] at hq; simp at hq
        rw [if_neg this]
        simp only [Option.map_some, add_place]
        exact .slice e (.inl ⟨by omega, rfl⟩)
    | sliceE b b' c hc =>
      obtain ⟨h1, h2⟩ := he ⟨rfl, rfl⟩
      have hl : l = 0 := by omega
      subst h1; subst h2; subst hl
      simp
      exact .sliceE _ _ _ (.inl rfl)

theorem sliceS_ok {μ : Map} {a a' : Option Addr} {n c c' k : Nat} (hx : VR μ (.slice a n c) (.slice a' n c')) {lo hi mx lo' hi' mx' : Option Value} (hlo : OptR μ lo lo') (hhi : OptR μ hi hi') (hmx : OptR μ mx mx')
    {v : Value} (hv : sliceS a n c k lo hi mx = some v) :
    ∃ l h m, (∀ (P : Program) (w : World), (Instr.sliceBounds true n c' lo' hi' mx').run P w = .ok (l, h, m) w) ∧ VR μ v (.slice (if m = l then a' else a'.map (·.add (l * k))) (h - l) (m - l)) := by
  have hcap : c < UNK → c = c' := by
    intro hlt
    cases hx with
    | sliceNil => rfl
    | slice e hc =>
      rcases hc with ⟨_, h⟩ | ⟨k, hk, h, _⟩
      · exact h
      · omega
    | sliceE _ _ _ h => rcases h with h | h <;> omega
  have hmin : min n c ≤ c' := by
    cases hx with
    | sliceNil => omega
    | slice e hc => rcases hc with ⟨_, h⟩ | ⟨k, hk, h, h1, h2⟩ <;> omega
    | sliceE _ _ _ h => omega
  unfold sliceS at hv
  cases hmx with
  | some hm =>
    rename_i v0 v0'
    simp only at hv
    cases hbm : bound (some v0) 0 (Nat.min n c) with
    | none => simp [hbm] at hv
    | some m =>
      simp only [hbm] at hv
      cases hhi with
      | none => simp at hv
      | some hh =>
        rename_i hv0 hv0'
        simp only at hv
        cases hb : bounds lo (some hv0) 0 m with
        | none => simp [hb] at hv
        | some lh =>
          obtain ⟨l, h⟩ := lh
          simp only [hb] at hv
          obtain ⟨h1, h2, h3, h4⟩ := bounds3_run hbm hm hb hlo hh (cap := c') hmin
          refine ⟨l, h, m, fun P w => h4 _ _ P w, ?_⟩
          have h3' : m ≤ min n c := h3
          exact sliceK_ok hx (Nat.le_trans h3' hmin) h1 hv (by omega)
  | none =>
    simp only at hv
    cases hb : Nat.blt c UNK with
    | true =>
      simp only [hb] at hv
      have hc := hcap (blt_true.1 hb)
      cases hbb : bounds lo hi n c with
      | none => simp [hbb] at hv
      | some lh =>
        obtain ⟨l, h⟩ := lh
        simp only [hbb] at hv
        obtain ⟨h1, h2, h3⟩ := bounds_run hbb hlo hhi (cap := c') (by omega)
        refine ⟨l, h, c', fun P w => h3 _ P w, ?_⟩
        subst hc; exact sliceK_ok hx (Nat.le_refl _) h1 hv (by omega)
    | false =>
      simp only [hb] at hv
      cases hq : Nat.beq c (Nat.add UNK k) with
      | false => rw [hq] at hv; cases hv
      | true =>
        rw [hq] at hv
        have hc' : c = UNK + k := Nat.eq_of_beq_eq_true hq
        cases a with
        | none => cases hv
        | some a0 =>
          cases hbb : bounds lo hi n n with
          | none => rw [hbb] at hv; cases hv
          | some lh =>
            obtain ⟨l, h⟩ := lh
            rw [hbb] at hv
            change some (Value.slice (some (addA a0 (l * k))) (h - l) c) = some v at hv
            cases hv
            cases hx with
            | slice e hcr =>
              rcases hcr with ⟨hlt, _⟩ | ⟨k0, hk0, hck, hd, hn⟩
              · omega
              · have : k0 = k := by omega
                subst this
                obtain ⟨h1, h2, h3⟩ := bounds_run hbb hlo hhi (cap := c') hn
                refine ⟨l, h, c', fun P w => h3 _ P w, ?_⟩
                by_cases hcl : c' = l
                · rw [if_pos hcl]
                  have e1 : h - l = 0 := by omega
                  have e2 : c' - l = 0 := by omega
                  rw [e1, e2]
                  exact .sliceE _ _ c (.inr (show UNK ≤ c by omega))
                · rw [if_neg hcl]
                  simp only [Option.map_some, add_place]
                  refine .slice e (.inr ⟨k0, hk0, hc', ?_, by omega⟩)
                  have : c' * k0 = l * k0 + (c' - l) * k0 := by rw [← Nat.add_mul]; congr 1; omega
                  simp only [Nat.add_eq]
                  omega
            | sliceE _ b' _ _ =>
              obtain ⟨h1, h2, h3⟩ := bounds_run hbb hlo hhi (cap := 0) (Nat.le_refl _)
              refine ⟨l, h, 0, fun P w => h3 _ P w, ?_⟩
              have e1 : l = 0 := by omega
              have e2 : h = 0 := by omega
              rw [e1, e2]
              exact .sliceE _ _ c (.inr (show UNK ≤ c by omega))

theorem EsR.length {μ : Map} : ∀ {l l' : List MapEntry}, EsR μ l l' → l.length = l'.length
  | _, _, .nil => rfl
  | _, _, .cons _ _ _ _ d => by simp [d.length]

theorem string_cut {s : ByteArray} {l h : Nat} : (⟨⟨(s.data.toList.drop l).take (Nat.sub h l)⟩⟩ : ByteArray) = s.extract l h := by
  apply ByteArray.ext
  rw [ByteArray.data_extract]
  apply Array.ext'
  simp [Array.toList_extract, List.extract_eq_take_drop]

theorem string_size {s : ByteArray} : s.data.toList.length = s.size := by simp

section
variable {L : Pg} (hL : LOk L) {μ : Map} {st : ISt} {w : World} (hW : WR μ st w)
include hL hW

theorem sliceV_out {t : TypeId} {x x' : Value} (hx : VR μ x x') {lo hi mx lo' hi' mx' : Option Value} (hlo : OptR μ lo lo') (hhi : OptR μ hi hi') (hmx : OptR μ mx mx') :
    OutP μ st L.P w (.ofV st (sliceV L t x lo hi mx)) ((do let v ← Instr.sliceAt t x' lo' hi' mx'; pure (.value v) : Sem Next).run L.P w) := by
  refine OutP.ofV hW fun v hv => ?_
  unfold sliceV at hv
  split at hv
  · rename_i s hu
    cases hmx with
    | some _ => cases hv
    | none =>
      simp only at hv
      rw [string_size] at hv
      cases hb : bounds lo hi s.size s.size with
      | none => rw [hb] at hv; cases hv
      | some lh =>
        obtain ⟨l, h⟩ := lh
        rw [hb] at hv
        simp only [Option.some.injEq] at hv
        subst hv
        obtain ⟨h1, h2, h3⟩ := bounds_run hb hlo hhi (cap := s.size) (Nat.le_refl _)
        cases hx
        refine ⟨.string (s.extract l h), run_v ?_, by rw [string_cut]; exact .string _⟩
        simp [Instr.sliceAt, Instr.slice, hL.run_und hu, h3]
  · rename_i elem a len cap hu
    cases hs : szOf L elem with
    | none => rw [hs] at hv; cases hv
    | some k =>
      rw [hs] at hv
      have hx' := hx
      cases hx with
      | sliceNil n c =>
        obtain ⟨l, h, m, h1, h2⟩ := sliceS_ok hx' hlo hhi hmx hv
        exact ⟨_, run_v (by simp [Instr.sliceAt, Instr.slice, hL.run_und hu, h1, hL.run_size hs]), h2⟩
      | slice e hc =>
        obtain ⟨l, h, m, h1, h2⟩ := sliceS_ok hx' hlo hhi hmx hv
        exact ⟨_, run_v (by simp [Instr.sliceAt, Instr.slice, hL.run_und hu, h1, hL.run_size hs]), h2⟩
      | sliceE =>
        obtain ⟨l, h, m, h1, h2⟩ := sliceS_ok hx' hlo hhi hmx hv
        exact ⟨_, run_v (by simp [Instr.sliceAt, Instr.slice, hL.run_und hu, h1, hL.run_size hs]), h2⟩
  · rename_i n elem a hu
    cases hs : szOf L elem with
    | none => rw [hs] at hv; cases hv
    | some k =>
      rw [hs] at hv
      cases hmx with
      | some _ => cases hv
      | none =>
        simp only at hv
        cases hb : bounds lo hi n n with
        | none => rw [hb] at hv; cases hv
        | some lh =>
          obtain ⟨l, h⟩ := lh
          rw [hb] at hv
          obtain ⟨h1, h2, h3⟩ := bounds_run hb hlo hhi (cap := n) (Nat.le_refl _)
          obtain ⟨p, e, rfl, hsp⟩ := hx.ptr_inv
          have hxs : VR μ (.slice (some a) 1 n) (.slice (some ⟨p.B, p.d + a.off, none⟩) 1 n) := by
            have hlt : n < UNK := by
              cases hq : Nat.blt n UNK with
              | true => exact blt_true.1 hq
              | false => unfold sliceK at hv; simp [hq] at hv
            obtain ⟨b, o, sp⟩ := a
            simp only at hsp; subst hsp
            exact .slice e (.inl ⟨hlt, rfl⟩)
          have := sliceK_ok hxs (Nat.le_refl _) h1 hv (by omega)
          exact ⟨_, run_v (by simp [Instr.sliceAt, hL.run_und hu, h3, hL.run_size hs, Instr.sureAddr]; split <;> rfl), this⟩
  · cases hv

theorem lenV_out {ts : Array TypeId} {ty t : TypeId} {x x' : Value} {args' : Array Value} (ht : ts[0]? = some t) (ha : args'[0]? = some x') (hx : VR μ x x') :
    OutP μ st L.P w (.ofV st (lenV L st t x)) ((do let v ← Builtin.len_ ts ty args'; pure (.value v) : Sem Next).run L.P w) := by
  refine OutP.ofV hW fun v hv => ?_
  unfold lenV at hv
  split at hv
  · rename_i s hu
    cases hx; cases hv
    refine ⟨_, run_v (by simp [Builtin.len_, ht, ha, hL.run_und hu]; rfl), ?_⟩
    rw [string_size]; exact .int _ _
  · rename_i n e hu
    cases hv
    exact ⟨_, run_v (by simp [Builtin.len_, ht, ha, hL.run_und hu]; rfl), .int _ _⟩
  · rename_i arr hu
    split at hv
    · rename_i n e hu2
      cases hv
      exact ⟨_, run_v (by simp [Builtin.len_, ht, ha, hL.run_und hu, hL.run_und hu2]; rfl), .int _ _⟩
    · cases hv
  · rename_i e a n c hu
    cases hv
    cases hx <;> exact ⟨_, run_v (by simp [Builtin.len_, ht, ha, hL.run_und hu]; rfl), .int _ _⟩
  · rename_i k e hu
    cases hv; cases hx
    exact ⟨_, run_v (by simp [Builtin.len_, ht, ha, hL.run_und hu]; rfl), .int _ _⟩
  · rename_i k e r hu
    cases hx with
    | map em =>
      have ho := hW.obj _ _ em
      split at hv
      · rename_i es c hg
        rw [hg] at ho
        obtain ⟨es', h1, h2⟩ := ho
        cases hv
        refine ⟨_, run_v (by simp [Builtin.len_, ht, ha, hL.run_und hu, getObj, Sem.run, h1]; rfl), ?_⟩
        rw [h2.length]; simp; exact .int _ _
      · cases hv
  · cases hv

end
end Go.Ideal

/-
What an operation comes to over the ideal heap, it comes to in the machine: type assertions, conversions, maps.
-/
namespace Go.Ideal
open Go

theorem least_none {l : List String} : Instr.least l = none ↔ l = [] := by
  cases l <;> simp [Instr.least]

theorem or_none {α : Type} {a b : Option α} : (a <|> b) = none ↔ a = none ∧ b = none := by
  cases a <;> simp

theorem missingMethod_none {want : Array (String × TypeId)} {got : Array Method} :
    Instr.missingMethod want got = none ↔ (want.toList.all fun w => got.toList.any fun m => m.name == w.1 && m.sig == w.2) = true := by
  unfold Instr.missingMethod
  simp only [List.partition_eq_filter_filter, or_none, least_none, List.map_eq_nil_iff]
  generalize hl : (want.toList.filter fun x => !got.any fun m => m.name == x.1 && m.sig == x.2) = l
  have e1 : (want.toList.all fun w => got.toList.any fun m => m.name == w.1 && m.sig == w.2) = true ↔ l = [] := by
    rw [← hl, List.filter_eq_nil_iff, List.all_eq_true]
    constructor
    · intro h x hx; have := h x hx; rw [← Array.any_toList, this]; decide
    · intro h x hx; have := h x hx; rw [← Array.any_toList] at this; simpa using this
  rw [e1]
  constructor
  · rintro ⟨h1, h2⟩
    rcases l with _ | ⟨a, l⟩
    · rfl
    · exfalso
      have f1 := List.filter_eq_nil_iff.1 h1 a.1 (by simp)
      have f2 := List.filter_eq_nil_iff.1 h2 a.1 (by simp)
      simp at f1 f2
      exact f2 f1
  · intro h; subst h; simp

theorem undef_or {d : TypeDesc} : (∃ w, d = .interface w) ∨ ∀ w, d ≠ .interface w := by
  cases d <;> simp

section
variable {L : Pg} (hL : LOk L) {μ : Map} {st : ISt} {w : World} (hW : WR μ st w)
include hL hW

theorem typeAssert_out {xt asserted : TypeId} {ok : Bool} {x x' : Value} (hx : VR μ x x') :
    OutP μ st L.P w (.ofV st (typeAssert L x asserted ok)) ((do let v ← Instr.typeAssert x' xt asserted ok; pure (.value v) : Sem Next).run L.P w) := by
  refine OutP.ofV hW fun v hv => ?_
  have vz : ∀ {z : Value}, zeroOf L asserted = some z → VR μ (.tuple #[z, .bool false]) (.tuple #[z, .bool false]) := fun h =>
    .tuple (.cons (VR.okZ (zeroOf_ok h)) (.cons (.bool _) .nil))
  cases x with
  | iface t i =>
    cases hx with
    | iface t hi =>
      rename_i i'
      unfold typeAssert at hv
      simp only at hv
      cases hd : L.und asserted with
      | none => rw [hd] at hv; cases hv
      | some d =>
        rw [hd] at hv
        rcases undef_or (d := d) with ⟨want, rfl⟩ | hne
        · simp only at hv
          unfold missing at hv
          cases hi2 : L.info t with
          | none => rw [hi2] at hv; cases hv
          | some info =>
            rw [hi2] at hv
            simp only at hv
            cases hm : (want.toList.all fun w => info.methods.toList.any fun m => m.name == w.1 && m.sig == w.2) with
            | true =>
              have hmm := missingMethod_none.2 hm
              rw [hm] at hv
              cases ok with
              | true =>
                cases hv
                exact ⟨_, run_v (by simp [Instr.typeAssert, hL.run_und hd, hL.run_info hi2, hmm]), .tuple (.cons (.iface t hi) (.cons (.bool _) .nil))⟩
              | false =>
                cases hv
                exact ⟨_, run_v (by simp [Instr.typeAssert, hL.run_und hd, hL.run_info hi2, hmm]), .iface t hi⟩
            | false =>
              rw [hm] at hv
              cases hmm : Instr.missingMethod want info.methods with
              | none => have := missingMethod_none.1 hmm; rw [hm] at this; cases this
              | some m =>
                cases ok with
                | false => cases hv
                | true =>
                  cases hz : zeroOf L asserted with
                  | none => simp only [Bool.not_false, hz] at hv; cases hv
                  | some z =>
                    simp only [Bool.not_false, hz] at hv
                    cases hv
                    exact ⟨_, run_v (by simp [Instr.typeAssert, hL.run_und hd, hL.run_info hi2, hmm, hL.run_zero hz]), vz hz⟩
        · have hrun : (Instr.typeAssert (.iface t i') xt asserted ok).run L.P w = (if t = asserted then (pure (if ok then .tuple #[i', .bool true] else i') : Sem Value) else (if ok then do pure (.tuple #[← zeroValue asserted, .bool false]) else runtimePanic (.typeAssertion (some xt) (some t) asserted ""))).run L.P w := by
            cases d <;> first | exact absurd rfl (hne _) | simp [Instr.typeAssert, hL.run_und hd]
          have hv' : (match (generalizing := false) Nat.beq t asserted, ok with
            | true, true => some (.tuple #[i, .bool true])
            | true, false => some i
            | false, true => match zeroOf L asserted with
              | some z => some (.tuple #[z, .bool false])
              | none => none
            | false, false => none) = some v := by
            cases d <;> first | exact absurd rfl (hne _) | exact hv
          cases hq : Nat.beq t asserted with
          | true =>
            have he := Nat.eq_of_beq_eq_true hq
            rw [hq] at hv'
            cases ok with
            | true => cases hv'; exact ⟨_, run_v (by rw [hrun, if_pos he]; rfl), .tuple (.cons hi (.cons (.bool _) .nil))⟩
            | false => cases hv'; exact ⟨_, run_v (by rw [hrun, if_pos he]; rfl), hi⟩
          | false =>
            have he := Nat.ne_of_beq_eq_false hq
            rw [hq] at hv'
            cases ok with
            | false => cases hv'
            | true =>
              cases hz : zeroOf L asserted with
              | none => simp only [hz] at hv'; cases hv'
              | some z =>
                simp only [hz] at hv'
                cases hv'
                exact ⟨_, run_v (by rw [hrun, if_neg he]; simp [hL.run_zero hz]), vz hz⟩
  | _ => cases hv

omit hW in
theorem cellsOf_eq {t : TypeId} {n : Nat} (h : szOf L t = some n) : L.P.cellsOf t = n := by
  unfold szOf at h
  cases hi : L.info t with
  | none => simp [hi] at h
  | some i => simp [hi] at h; simp [Program.cellsOf, hL.ty _ _ hi, h]

omit hW in
theorem variablesAt_run {B j k n : Nat} {u : TypeId} {C : Array Value} {fz : Nat × Nat} (h : w.heap[B]? = some (.cells C u fz)) (hs : szOf L u = some (k + 1)) (hj : j + n ≤ C.size / (k + 1)) :
    (variablesAt ⟨B, j * (k + 1), none⟩ u n).run L.P w = .ok true w := by
  have hsh : w.shape? B = some (u, C.size) := by simp [World.shape?, h]
  have hc := cellsOf_eq hL hs
  have hdep : ∃ d, L.P.depth = d + 1 := ⟨_, rfl⟩
  obtain ⟨d, hd⟩ := hdep
  have hl : sameLayout L.P (d + 1) u u = true := by simp [sameLayout]
  have hr : rowAt L.P (sameLayout L.P (d + 1) · u) (d + 1) u (C.size / (k + 1)) (j * (k + 1)) n = true := by
    simp only [rowAt, hc]
    rw [if_neg (by omega)]
    have e1 : j * (k + 1) / (k + 1) = j := Nat.mul_div_cancel _ (by omega)
    have e2 : j * (k + 1) % (k + 1) = 0 := Nat.mul_mod_left _ _
    rw [e1, e2, hl]
    simp [hj]
  have hli : liesAt L.P (d + 1) u (C.size / (k + 1)) (j * (k + 1)) u n = true := by
    simp only [liesAt, hd, hr, Bool.true_or]
  simp [variablesAt, shape, program, Sem.run, hsh, hc, hd, hli]

omit hL hW in
theorem cell_size {a : Addr} {v : Value} (h : w.cell? a = some v) : ∃ C e fz, w.heap[a.block]? = some (.cells C e fz) ∧ a.off < C.size := by
  unfold World.cell? at h
  split at h
  · rename_i c e fz hb
    split at h
    · cases h
    · refine ⟨c, e, fz, hb, ?_⟩
      rcases Nat.lt_or_ge a.off c.size with h1 | h1
      · exact h1
      · rw [Array.getElem?_eq_none h1] at h; cases h
  · cases h

omit hL hW in
theorem seenAt_run {P : Program} {a : Addr} {C : Array Value} {e : TypeId} {fz : Nat × Nat} (h : w.heap[a.block]? = some (.cells C e fz)) : (Conv.seenAt a).run P w = .ok a w := by
  simp [Conv.seenAt, viewAt, shape, Sem.run, World.shape?, h]

omit hL hW in
theorem bytesOf_run {P : Program} {f : Value → ByteArray → Sem (ForInStep ByteArray)} (hf : ∀ n s, f (.int .u8 n) s = pure (.yield (s.push (UInt8.ofNat n.toNat)))) :
    ∀ {l l' : List Value} {bs : List UInt8}, bytesOf l = some bs → VsR μ l l' → ∀ (s : ByteArray), (forIn l' s f : Sem ByteArray).run P w = .ok ⟨s.data ++ bs.toArray⟩ w := by
  intro l
  induction l with
  | nil => intro l' bs h hr s; cases hr; simp [bytesOf] at h; subst h; simp
  | cons v l ih =>
    intro l' bs h hr s
    cases hr with
    | cons hv hr =>
      unfold bytesOf at h
      split at h
      · rename_i n
        have := hv.int_inv; subst this
        cases hb : bytesOf l with
        | none => simp [hb] at h
        | some bs' =>
          simp only [hb] at h; cases h
          have := ih hb hr (s.push (UInt8.ofNat n))
          simp only [List.forIn_cons, hf]
          rw [show (Int.ofNat n).toNat = n from rfl]
          simp only [Sem.run_bind, Sem.run_pure, Result.andThen_ok]
          rw [this]
          congr 1
          apply ByteArray.ext
          simp
      · cases h

omit hL hW in
theorem bytesToString_run {P : Program} {a : Addr} {n c : Nat} {l l' : List Value} {bs : List UInt8} (h : (loadCells a n).run P w = .ok l'.toArray w) (hb : bytesOf l = some bs) (hr : VsR μ l l') :
    (Conv.bytesToString (.slice (some a) n c)).run P w = .ok (.string ⟨⟨bs⟩⟩) w := by
  simp [Conv.bytesToString, h]
  rw [bytesOf_run (μ := μ) (fun _ _ => rfl) hb hr ByteArray.empty]
  simp only [Result.andThen_ok]
  congr 2
  apply ByteArray.ext
  simp

theorem convert_out {src dst : TypeId} {x x' : Value} (hx : VR μ x x') :
    OutP μ st L.P w (.ofV st (convert L st src dst x)) ((do let v ← Go.convert src dst x'; pure (.value v) : Sem Next).run L.P w) := by
  refine OutP.ofV hW fun v hv => ?_
  unfold convert at hv
  cases hf : flat x with
  | true =>
    rw [hf] at hv
    have := hx.flat hf; subst this
    obtain ⟨h1, h2⟩ := pureV_run hv w
    exact ⟨v, run_v h1, VR.flat_refl h2⟩
  | false =>
    rw [hf] at hv
    simp only at hv
    split at hv
    · rename_i t a hs hd
      obtain ⟨l, e, rfl, hsp⟩ := hx.ptr_inv
      split at hv
      · rename_i k c hz hc
        cases hv
        obtain ⟨v', h1, h2⟩ := hW.cell e hc
        obtain ⟨C, el, fz, h3, h4⟩ := cell_size h1
        refine ⟨_, run_v ?_, hx⟩
        have hsh : w.shape? l.B = some (el, C.size) := by simp [World.shape?, h3]
        have h4' : ¬ C.size ≤ l.d + a.off := by simp at h4; omega
        simp [Go.convert, hL.run_und hs, hL.run_und hd, Conv.unsafePointer, seenAt_run h3, cellsIn, shape, Sem.run, hsh, hL.run_size hz, h4']
      · cases hv
    · rename_i u a hs hd
      obtain ⟨l, e, rfl, hsp⟩ := hx.ptr_inv
      split at hv
      · rename_i k ov df n el hz hg ho
        split at hv
        · rename_i q1 q2
          cases hv
          have q1 := Nat.eq_of_beq_eq_true q1
          have q2 := Nat.eq_of_beq_eq_true q2
          have hobj := hW.obj _ _ e
          rw [hg] at hobj
          obtain ⟨C, lo, hi, h1, h2, h3, h4, h5, h6⟩ := hobj
          obtain ⟨e1, e2, e3⟩ := h5 rfl
          subst q1
          have hva := variablesAt_run (w := w) hL (B := l.B) (j := 0) (n := 1) h1 hz (by rw [e2, q2, Nat.div_self (by omega)]; exact Nat.le_refl _)
          refine ⟨_, run_v ?_, hx⟩
          have ho' : a.off = 0 := ho
          have hsn := seenAt_run (P := L.P) (w := w) (a := ⟨l.B, l.d + a.off, none⟩) h1
          rw [e1, ho'] at *
          simp only [Nat.zero_mul] at hva
          simp [Go.convert, hL.run_und hs, hL.run_und hd, Conv.unsafePointer, hsn, hva, hL.run_size hz]
        · cases hv
      · cases hv
    · rename_i el a n c hs hd
      split at hv
      · rename_i he
        split at hv
        · cases hv
          cases hx with
          | slice e hc =>
            refine ⟨_, run_v ?_, .string _⟩
            simp [Go.convert, hL.run_und hs, hL.run_und hd, hL.run_und he, Conv.bytesToString, loadCells, loadCellsFrom]
          | sliceE =>
            refine ⟨_, run_v ?_, .string _⟩
            simp [Go.convert, hL.run_und hs, hL.run_und hd, hL.run_und he, Conv.bytesToString, loadCells, loadCellsFrom]
        · rename_i hn
          cases hl : st.load a n with
          | none => rw [hl] at hv; cases hv
          | some l =>
            rw [hl] at hv
            simp only at hv
            cases hb : bytesOf l with
            | none => rw [hb] at hv; cases hv
            | some bs =>
              rw [hb] at hv
              cases hv
              cases hx with
              | slice e hc =>
                obtain ⟨l', h1, h2⟩ := hW.run_cells (P := L.P) e hl
                refine ⟨_, run_v ?_, .string _⟩
                have := bytesToString_run (c := 0) h2 hb h1
                simp [Go.convert, hL.run_und hs, hL.run_und hd, hL.run_und he]
                exact bytesToString_run h2 hb h1
              | sliceE => exact absurd rfl hn
      · cases hv
    · cases hv

end
end Go.Ideal

/-
What an operation comes to over the ideal heap, it comes to in the machine: maps.
-/
namespace Go.Ideal
open Go

theorem intEq_eq (a b : Int) : intEq a b = (a == b) := by
  cases a <;> cases b <;> simp [intEq]
  · rename_i m n
    rw [Bool.eq_iff_iff]; simp [Int.ofNat_inj]
  · rename_i m n
    rw [Bool.eq_iff_iff, Nat.beq_eq]; simp

theorem bytesEq_iff : ∀ (l m : List UInt8), bytesEq l m = true ↔ l = m
  | [], [] => by simp [bytesEq]
  | [], _ :: _ => by simp [bytesEq]
  | _ :: _, [] => by simp [bytesEq]
  | a :: l, b :: m => by
    unfold bytesEq
    cases h : Nat.beq a.toNat b.toNat with
    | true =>
      have := Nat.eq_of_beq_eq_true h
      have hab : a = b := UInt8.toNat_inj.1 this
      simp [bytesEq_iff l m, hab]
    | false =>
      have := Nat.ne_of_beq_eq_false h
      have hab : a ≠ b := fun h => this (by rw [h])
      simp [hab]

theorem bytesEq_eq (a b : ByteArray) : bytesEq a.data.toList b.data.toList = (a == b) := by
  have e : (a == b) = (a.data == b.data) := by cases a; cases b; rfl
  rw [e, Bool.eq_iff_iff, bytesEq_iff, beq_iff_eq]
  exact ⟨fun h => Array.ext' h, fun h => by rw [h]⟩

/-- a key of numbers or strings, where such are looked for -/
def keyIn : TypeDesc → Value → Prop
  | .int _, .int _ _ => True
  | .string, .string _ => True
  | _, _ => False

section
variable {L : Pg} (hL : LOk L) {μ : Map} {st : ISt} {w : World} (hW : WR μ st w)

theorem keyKind_some {t : TypeId} {key : Value} (h : keyKind L t key = true) : ∃ d, L.und t = some d ∧ keyIn d key := by
  unfold keyKind at h
  split at h
  · rename_i k _ _ hu; exact ⟨_, hu, trivial⟩
  · rename_i _ hu; exact ⟨_, hu, trivial⟩
  · cases h

theorem VR.key {d : TypeDesc} {key key' : Value} (h : keyIn d key) (hx : VR μ key key') : key' = key := by
  cases d <;> cases key <;> first | exact h.elim | exact hx.flat rfl

include hL in
theorem checkKey_run {t : TypeId} {key : Value} {d : TypeDesc} (hd : L.und t = some d) (hk : keyIn d key) (e : Bool) : (Instr.checkKey e 10000 t key).run L.P w = .ok () w := by
  suffices h : ∀ n, (Instr.checkKey e (n + 1) t key).run L.P w = .ok () w from h 9999
  intro n
  cases d <;> cases key <;> first | exact hk.elim | simp [Instr.checkKey, hL.run_und hd]

theorem sameNow_eq {d : TypeDesc} {key k' : Value} (hk : keyIn d key) {b : Bool} (h : keyEq key k' = some b) : Instr.sameNow d key k' = some b := by
  cases d with
  | int _ =>
    cases key with
    | int k n =>
      cases k' with
      | int k2 n2 =>
        unfold keyEq at h
        simp only at h
        cases hq : Nat.beq (kindNo k) (kindNo k2) with
        | false => rw [hq] at h; cases h
        | true =>
          rw [hq] at h; cases h
          have := same_eq (k := k) (k' := k2) hq
          simp [Instr.sameNow, this, intEq_eq]
      | _ => cases h
    | _ => exact hk.elim
  | string =>
    cases key with
    | string s =>
      cases k' with
      | string s2 =>
        unfold keyEq at h
        simp only at h; cases h
        simp [Instr.sameNow, bytesEq_eq]
      | _ => cases h
    | _ => exact hk.elim
  | _ => exact hk.elim

theorem findKey_now {d : TypeDesc} {key : Value} (hk : keyIn d key) : ∀ {es es' : List MapEntry}, EsR μ es es' → ∀ (i : Nat) {r : Option (Nat × Value)}, findKey key es i = some r →
    (r = none ∧ Instr.findNow d key es' i = some none) ∨ ∃ j v v', r = some (j, v) ∧ Instr.findNow d key es' i = some (some (j, v')) ∧ VR μ v v' ∧ i ≤ j ∧
      (∃ e e', es[j - i]? = some e ∧ es'[j - i]? = some e' ∧ e.val = v ∧ e'.val = v' ∧ e'.key = e.key ∧ keyEq key e.key = some true)
  | _, _, .nil, i, r, h => by simp [findKey] at h; exact .inl ⟨h.symm, rfl⟩
  | _, _, .cons (e := e) (e' := e') (l := l) (l' := l') h1 h2 h3 h4 h5, i, r, h => by
    unfold findKey at h
    unfold Instr.findNow
    cases hq : keyEq key e.key with
    | none => rw [hq] at h; cases h
    | some b =>
      rw [hq] at h
      have := sameNow_eq hk hq
      rw [h1, this]
      cases b with
      | true =>
        cases h
        exact .inr ⟨i, e.val, e'.val, rfl, rfl, h3, Nat.le_refl _, e, e', by simp, by simp, rfl, rfl, h1, hq⟩
      | false =>
        rcases findKey_now hk h5 (Nat.succ i) h with ⟨h6, h7⟩ | ⟨j, v, v', h6, h7, h8, h9, a, a', b1, b2, b3⟩
        · exact .inl ⟨h6, h7⟩
        · refine .inr ⟨j, v, v', h6, h7, h8, by omega, a, a', ?_, ?_, b3⟩
          · rw [show j - i = (j - (i + 1)) + 1 by omega, List.getElem?_cons_succ]; exact b1
          · rw [show j - i = (j - (i + 1)) + 1 by omega, List.getElem?_cons_succ]; exact b2

include hL in
theorem findKey_run {t : TypeId} {d : TypeDesc} (hd : L.und t = some d) {key : Value} {es : List MapEntry} {r : Option (Nat × Value)} (h : Instr.findNow d key es 0 = some r) : (Instr.findKey t key es).run L.P w = .ok r w := by
  simp [Instr.findKey, hL.run_und hd, h]

include hL hW

theorem lookup_out {t : TypeId} {x key x' key' : Value} {ok : Bool} (hx : VR μ x x') (hkey : VR μ key key') :
    OutP μ st L.P w (.ofV st (lookup L st t x key ok)) ((do let v ← Instr.lookup t x' key' ok; pure (.value v) : Sem Next).run L.P w) := by
  refine OutP.ofV hW fun v hv => ?_
  unfold lookup at hv
  split at hv
  · rename_i kt et hu
    cases hkk : keyKind L kt key with
    | false => rw [hkk] at hv; cases hv
    | true =>
      rw [hkk] at hv
      obtain ⟨d, hd, hki⟩ := keyKind_some hkk
      have := hkey.key hki; subst this
      have ck := fun e => checkKey_run (w := w) hL hd hki e
      simp only at hv
      have fin : ∀ {es es' : List MapEntry} {s : Sem Value}, EsR μ es es' →
          (match findKey key' es 0 with
            | some (some (_, v)) => some (if ok then .tuple #[v, .bool true] else v)
            | some none => match zeroOf L et with
              | some z => some (if ok then .tuple #[z, .bool false] else z)
              | none => none
            | none => none) = some v →
          (∀ j v, Instr.findNow d key' es' 0 = some (some (j, v)) → s.run L.P w = .ok (if ok then .tuple #[v, .bool true] else v) w) →
          (∀ z, Instr.findNow d key' es' 0 = some none → zeroOf L et = some z → s.run L.P w = .ok (if ok then .tuple #[z, .bool false] else z) w) →
          ∃ v', (do let v ← s; pure (.value v) : Sem Next).run L.P w = .ok (.value v') w ∧ VR μ v v' := by
        intro es es' s hr hv h1 h2
        cases hf : findKey key' es 0 with
        | none => rw [hf] at hv; cases hv
        | some r =>
          rw [hf] at hv
          rcases findKey_now hki hr 0 hf with ⟨rfl, h4⟩ | ⟨j, v0, v0', rfl, h4, h5, _⟩
          · simp only at hv
            cases hz : zeroOf L et with
            | none => rw [hz] at hv; cases hv
            | some z =>
              rw [hz] at hv
              cases hv
              refine ⟨_, run_v (h2 z h4 hz), ?_⟩
              cases ok with
              | true => exact .tuple (.cons (VR.okZ (zeroOf_ok hz)) (.cons (.bool _) .nil))
              | false => exact VR.okZ (zeroOf_ok hz)
          · cases hv
            refine ⟨_, run_v (h1 j v0' h4), ?_⟩
            cases ok with
            | true => exact .tuple (.cons h5 (.cons (.bool _) .nil))
            | false => exact h5
      cases x with
      | map r =>
        cases r with
        | none =>
          cases hx
          refine fin (es := []) (es' := []) .nil hv ?_ ?_
          · intro j v h; simp [Instr.findNow] at h
          · intro z h hz
            have fk := findKey_run (w := w) hL hd h
            simp [Instr.lookup, hL.run_und hu, ck, fk, hL.run_zero hz]
        | some r =>
          cases hx with
          | map em =>
            have ho := hW.obj _ _ em
            simp only at hv
            cases hg : getO st.heap r with
            | map es c =>
              rw [hg] at hv ho
              obtain ⟨es', h1, h2⟩ := ho
              refine fin (es := es) (es' := es'.toList) h2 hv ?_ ?_
              · intro j v h
                have fk := findKey_run (w := w) hL hd h
                simp [Instr.lookup, hL.run_und hu, getObj, Sem.run, h1, ck, fk]
              · intro z h hz
                have fk := findKey_run (w := w) hL hd h
                simp [Instr.lookup, hL.run_und hu, getObj, Sem.run, h1, ck, fk, hL.run_zero hz]
            | _ => rw [hg] at hv; cases hv
      | _ => cases hv
  · cases hv

omit hL hW in
theorem EsR.set {v v' : Value} (hv : VR μ v v') {key : Value} (hk : okKey key = true) : ∀ {l l' : List MapEntry}, EsR μ l l' → ∀ (i : Nat), EsR μ (setVal v key l i) (l'.modify i fun e => { e with key, val := v' })
  | _, _, .nil, i => by cases i <;> exact .nil
  | _, _, .cons h1 h2 h3 h4 h5, i => by
    cases i with
    | zero => exact .cons rfl hk hv h4 h5
    | succ i => exact .cons h1 h2 h3 h4 (EsR.set hv hk h5 i)

omit hL hW in
theorem EsR.drop : ∀ {l l' : List MapEntry}, EsR μ l l' → ∀ (i : Nat), EsR μ (dropAt l i) (l'.eraseIdx i)
  | _, _, .nil, i => by cases i <;> exact .nil
  | _, _, .cons h1 h2 h3 h4 h5, i => by
    cases i with
    | zero => exact h5
    | succ i => exact .cons h1 h2 h3 h4 (EsR.drop h5 i)

omit hL hW in
theorem EsR.push : ∀ {l l' : List MapEntry}, EsR μ l l' → ∀ {e e' : MapEntry}, e'.key = e.key → okKey e.key = true → VR μ e.val e'.val → e'.born = e.born → EsR μ (l ++ [e]) (l' ++ [e'])
  | _, _, .nil, _, _, h1, h2, h3, h4 => .cons h1 h2 h3 h4 .nil
  | _, _, .cons a b c d f, _, _, h1, h2, h3, h4 => .cons a b c d (EsR.push f h1 h2 h3 h4)

omit hL hW in
theorem keyIn_ok {d : TypeDesc} {key : Value} (h : keyIn d key) : okKey key = true := by
  cases d <;> cases key <;> first | exact h.elim | rfl

omit hL hW in
theorem sameBits_of {d : TypeDesc} {key k' : Value} (hk : keyIn d key) (h : keyEq key k' = some true) (n : Nat) : Instr.sameBits n k' key = true := by
  cases key with
  | int k a =>
    cases k' with
    | int k2 b =>
      unfold keyEq at h
      simp only at h
      cases hq : Nat.beq (kindNo k) (kindNo k2) with
      | false => rw [hq] at h; cases h
      | true =>
        rw [hq] at h
        have := same_eq (k := k) (k' := k2) hq
        rw [intEq_eq] at h
        simp at h
        cases n <;> simp [Instr.sameBits, this, h]
    | _ => cases h
  | string a =>
    cases k' with
    | string b =>
      unfold keyEq at h
      simp only at h
      rw [bytesEq_eq] at h
      have e : (a == b) = (a.data == b.data) := by cases a; cases b; rfl
      have e' : (b == a) = (b.data == a.data) := by cases a; cases b; rfl
      rw [e] at h
      simp at h
      cases n <;> simp [Instr.sameBits, e', h]
    | _ => cases h
  | _ => cases d <;> exact hk.elim

omit hL in
theorem map_turn {r : Nat} {l : Loc} (e : μ r = some l) {es : List MapEntry} {c : Nat} (hg : getO st.heap r = .map es c) {es2 : List MapEntry} {es2' : Array MapEntry} {c2 : Nat} (h2 : EsR μ es2 es2'.toList) :
    (setObj l.B (.map es2' c2)).run L.P w = .ok () { w with heap := w.heap.setIfInBounds l.B (.map es2' c2) } ∧
    WR μ (st.with r (.map es2 c2)) { w with heap := w.heap.setIfInBounds l.B (.map es2' c2) } ∧
    Ext μ st w μ (st.with r (.map es2 c2)) { w with heap := w.heap.setIfInBounds l.B (.map es2' c2) } := by
  have ho := hW.obj _ _ e
  rw [hg] at ho
  obtain ⟨es', h1, _⟩ := ho
  have hlt : l.B < w.heap.size := by
    rcases Nat.lt_or_ge l.B w.heap.size with h | h
    · exact h
    · rw [Array.getElem?_eq_none h] at h1; cases h1
  have hother : ∀ B, B ≠ l.B → (w.heap.setIfInBounds l.B (.map es2' c2))[B]? = w.heap[B]? := by
    intro B hB
    rw [Array.getElem?_setIfInBounds_ne (Ne.symm hB)]
  have hw : wr (getO st.heap r) = true := by rw [hg]; rfl
  refine ⟨by simp [setObj, Sem.run, h1], hW.turn e hw hother ⟨es2', ?_, h2⟩, Ext.turn e hw hother (by simp) rfl rfl rfl⟩
  simp [hlt]

theorem mapUpdate_out {t : TypeId} {m key v m' key' v' : Value} (hm : VR μ m m') (hkey : VR μ key key') (hv : VR μ v v') :
    Out μ st L.P w (mapUpdate L st t m key v) ((do Instr.mapUpdate t m' key' v'; pure .skip : Sem Next).run L.P w) := by
  unfold mapUpdate
  split
  · rename_i kt et r hu
    cases hm with
    | map em =>
      have ho := hW.obj _ _ em
      split
      · rename_i es c hkk hg
        obtain ⟨d, hd, hki⟩ := keyKind_some hkk
        have := hkey.key hki; subst this
        rw [hg] at ho
        obtain ⟨es', h1, h2⟩ := ho
        have ck := fun e => checkKey_run (w := w) hL hd hki e
        cases hf : findKey key' es 0 with
        | none => trivial
        | some rr =>
          rcases findKey_now hki h2 0 hf with ⟨rfl, h4⟩ | ⟨j, v0, v0', rfl, h4, h5, _, e0, e0', g1, g2, g3, g4, g5, g6⟩
          · obtain ⟨q1, q2, q3⟩ := map_turn hW em hg (es2 := es ++ [{ key := key', val := v, born := c }]) (es2' := es'.push { key := key', val := v', born := c }) (c2 := c + 1)
              (by simp; exact h2.push rfl (keyIn_ok hki) hv rfl)
            refine ⟨μ, _, ?_, q2, q3⟩
            have fk := findKey_run (w := w) hL hd h4
            simp [Instr.mapUpdate, hL.run_und hu, getObj, Sem.run, h1, ck, fk]
            rw [q1]; rfl
          · obtain ⟨q1, q2, q3⟩ := map_turn hW em hg (es2 := setVal v key' es j) (es2' := es'.modify j fun e => { e with key := key', val := v' }) (c2 := c)
              (by simp; exact h2.set hv (keyIn_ok hki) j)
            refine ⟨μ, _, ?_, q2, q3⟩
            have fk := findKey_run (w := w) hL hd h4
            have sb := sameBits_of hki g6 10000
            have ge : es'[j]? = some e0' := by simpa using g2
            simp [Instr.mapUpdate, hL.run_und hu, getObj, Sem.run, h1, ck, fk, Instr.keyThatStays, ge, g5, sb]
            rw [q1]; rfl
      · trivial
  · trivial

end
end Go.Ideal

/-
What an operation comes to over the ideal heap, it comes to in the machine: what deletes, clears, stores, loads.
-/
namespace Go.Ideal
open Go

section
variable {L : Pg} (hL : LOk L) {μ : Map} {st : ISt} {w : World} (hW : WR μ st w)

include hW in
theorem WR.store {P : Program} {a : Addr} {l : Loc} (e : μ a.block = some l) {vs vs' : List Value} {st' : ISt} (h : st.store a vs = some st') (hr : VsR μ vs vs') :
    ∃ w', (storeCells ⟨l.B, l.d + a.off, none⟩ vs').run P w = .ok () w' ∧ WR μ st' w' ∧ Ext μ st w μ st' w' := by
  unfold ISt.store at h
  cases ho : allOne vs with
  | false => rw [ho] at h; cases h
  | true =>
    rw [ho] at h
    cases hg : getO st.heap a.block with
    | row over dflt n elem ex =>
      rw [hg] at h
      change withO st a.block (@Option.rec (T Value) (fun _ => Option IObj) none (fun over' => some (.row over' dflt n elem ex)) (rowPut over n a.off vs)) = some st' at h
      cases hp : rowPut over n a.off vs with
      | none => rw [hp] at h; cases h
      | some over' =>
        rw [hp] at h
        cases h
        exact WR.puts e vs vs' 0 a.off over over' st w hW hg hr ho (by simpa using hp)
    | _ => rw [hg] at h; cases h

theorem cellsL_eq (v : Value) : cellsL v = v.cells.toList := by cases v <;> rfl

theorem okZ_cells {z : Value} (h : okZ z = true) : (cellsL z).all flat = true := by
  cases z <;> first | exact h | (simp [cellsL]; exact h)

theorem flat_rep (z : List Value) : ∀ (n i : Nat), i < n * z.length → (List.flatten (List.replicate n z))[i]? = z[i % z.length]?
  | 0, i, h => by simp at h
  | n + 1, i, h => by
    rw [List.replicate_succ, List.flatten_cons]
    by_cases hi : i < z.length
    · rw [List.getElem?_append_left hi, Nat.mod_eq_of_lt hi]
    · have hi' : z.length ≤ i := Nat.le_of_not_lt hi
      rw [List.getElem?_append_right hi', flat_rep z n (i - z.length) (by rw [Nat.add_mul] at h; omega), Nat.mod_eq_sub_mod hi']

theorem rep_length (z : List Value) (n : Nat) : (List.flatten (List.replicate n z)).length = n * z.length := by simp

theorem zeroCells_eq (z : Array Value) (n : Nat) : (Builtin.zeroCells z n).toList = List.flatten (List.replicate n z.toList) := by
  apply List.ext_getElem?
  intro i
  by_cases hi : i < n * z.size
  · rw [flat_rep _ _ _ (by simpa using hi)]
    have hz : 0 < z.size := by
      rcases Nat.eq_zero_or_pos z.size with h | h
      · rw [h] at hi; omega
      · exact h
    have hm : i % z.size < z.size := Nat.mod_lt _ hz
    simp [Builtin.zeroCells, hi, hm]
  · rw [List.getElem?_eq_none (by simp [Builtin.zeroCells]; omega), List.getElem?_eq_none (by simp; omega)]

theorem all_rep {p : Value → Bool} {z : List Value} (h : z.all p = true) (n : Nat) : (List.flatten (List.replicate n z)).all p = true := by
  rw [List.all_eq_true] at *
  intro x hx
  rw [List.mem_flatten] at hx
  obtain ⟨l, hl, hx⟩ := hx
  rw [List.mem_replicate] at hl
  rw [hl.2] at hx
  exact h x hx

include hL hW

theorem deleteV_out {ts : Array TypeId} {ty t : TypeId} {args' : Array Value} {m key m' key' : Value} (ht : ts[0]? = some t) (h0 : args'[0]? = some m') (h1 : args'[1]? = some key') (hm : VR μ m m') (hkey : VR μ key key') :
    Out μ st L.P w (deleteV L st t m key) ((do let v ← Builtin.delete_ ts ty args'; pure (.value v) : Sem Next).run L.P w) := by
  unfold deleteV
  split
  · rename_i kt et r hu
    cases hm with
    | map em =>
      have ho := hW.obj _ _ em
      split
      · rename_i es c hkk hg
        obtain ⟨d, hd, hki⟩ := keyKind_some hkk
        have := hkey.key hki; subst this
        rw [hg] at ho
        obtain ⟨es', g1, g2⟩ := ho
        have ck := fun e => checkKey_run (w := w) hL hd hki e
        cases hf : findKey key' es 0 with
        | none => trivial
        | some rr =>
          rcases findKey_now hki g2 0 hf with ⟨rfl, h4⟩ | ⟨j, v0, v0', rfl, h4, h5, _⟩
          · obtain ⟨q1, q2, q3⟩ := map_turn hW em hg (es2 := es) (es2' := es') (c2 := c) g2
            have hget : ∀ b, getO st.heap b = getO (st.with r (.map es c)).heap b := by
              intro b; rw [ISt.with_get]; split
              · rename_i hb; rw [hb, hg]
              · rfl
            refine ⟨.tuple #[], μ, _, ?_, .tuple .nil, q2.congr rfl hget, q3.congr rfl hget⟩
            have fk := findKey_run (w := w) hL hd h4
            simp [Builtin.delete_, ht, h0, h1, hL.run_und hu, getObj, Sem.run, g1, ck, fk]
            rw [q1]; rfl
          · obtain ⟨q1, q2, q3⟩ := map_turn hW em hg (es2 := dropAt es j) (es2' := es'.eraseIdxIfInBounds j) (c2 := c)
              (by rw [Array.eraseIdxIfInBounds_eq]; split
                  · simp; exact g2.drop j
                  · rename_i hj; have := g2.drop j; rw [List.eraseIdx_of_length_le (by simpa using hj)] at this; exact this)
            refine ⟨.tuple #[], μ, _, ?_, .tuple .nil, q2, q3⟩
            have fk := findKey_run (w := w) hL hd h4
            simp [Builtin.delete_, ht, h0, h1, hL.run_und hu, getObj, Sem.run, g1, ck, fk]
            rw [q1]; rfl
      · trivial
  · trivial

theorem clearV_out {ts : Array TypeId} {ty t : TypeId} {args' : Array Value} {m m' : Value} (ht : ts[0]? = some t) (h0 : args'[0]? = some m') (hm : VR μ m m') :
    Out μ st L.P w (clearV L st t m) ((do let v ← Builtin.clear_ ts ty args'; pure (.value v) : Sem Next).run L.P w) := by
  unfold clearV
  split
  · rename_i elem a n c hu
    cases hz : zeroOf L elem with
    | none => trivial
    | some z =>
      simp only
      split
      · refine ⟨.tuple #[], μ, w, ?_, .tuple .nil, hW, Ext.refl _ _ _⟩
        cases hm <;> simp [Builtin.clear_, ht, h0, hL.run_und hu]
      · rename_i _ hn
        cases hs : st.store a (List.flatten (List.replicate n (cellsL z))) with
        | none => trivial
        | some st' =>
          cases hm with
          | slice e hc =>
            obtain ⟨w', q1, q2, q3⟩ := hW.store (P := L.P) e hs (VsR.flat_refl (all_rep (okZ_cells (zeroOf_ok hz)) n))
            refine ⟨.tuple #[], μ, w', ?_, .tuple .nil, q2, q3⟩
            rw [cellsL_eq, ← zeroCells_eq] at q1
            have hn0 : n ≠ 0 := fun h => hn h
            cases n with
            | zero => exact absurd rfl hn0
            | succ n =>
              simp [Builtin.clear_, ht, h0, hL.run_und hu, hL.run_zero hz]
              rw [q1]; rfl
          | sliceE => exact absurd rfl hn
  · trivial

end
end Go.Ideal

/-
What an operation comes to over the ideal heap, it comes to in the machine: loads, stores, new blocks.
-/
namespace Go.Ideal
open Go

theorem VR.cells {μ : Map} {v v' : Value} (h : VR μ v v') (hn : isTup v = false) : VsR μ (cellsL v) (cellsL v') := by
  cases h with
  | agg r => exact r
  | tuple => cases hn
  | _ => refine .cons ?_ .nil; constructor <;> assumption

section
variable {L : Pg} (hL : LOk L) {μ : Map} {st : ISt} {w : World} (hW : WR μ st w)

include hL hW in
theorem loadVar_run {t : TypeId} {a : Addr} {l : Loc} (e : μ a.block = some l) {v : Value} (h : loadVar L st t a = some v) :
    ∃ v', (Go.loadVar t ⟨l.B, l.d + a.off, none⟩).run L.P w = .ok v' w ∧ VR μ v v' := by
  unfold loadVar at h
  cases ha : aggOf L t with
  | none => rw [ha] at h; cases h
  | some b =>
    rw [ha] at h
    cases b with
    | false =>
      obtain ⟨v', h1, h2⟩ := hW.cell e h
      refine ⟨v', ?_, h2⟩
      simp [Go.loadVar, hL.run_agg ha, h1]
    | true =>
      change loadAgg st a (szOf L t) = some v at h
      cases hs : szOf L t with
      | none => rw [hs] at h; cases h
      | some n =>
        rw [hs] at h
        change @Option.rec (List Value) (fun _ => Option Value) none (fun l => some (.agg ⟨l⟩)) (st.load a n) = some v at h
        cases hl : st.load a n with
        | none => rw [hl] at h; cases h
        | some vs =>
          rw [hl] at h
          cases h
          obtain ⟨vs', h1, h2⟩ := hW.run_cells (P := L.P) e hl
          exact ⟨.agg vs'.toArray, by simp [Go.loadVar, hL.run_agg ha, hL.run_size hs, h2], .agg h1⟩

include hL hW in
theorem iLoad_out {t : TypeId} {a a' : Value} (hx : VR μ a a') :
    OutP μ st L.P w (iLoad L t a st) ((do let v ← Instr.loadAt t a'; pure (.value v) : Sem Next).run L.P w) := by
  unfold iLoad
  cases hp : ptrOf a with
  | none => trivial
  | some p =>
    have := ptrOf_some hp; subst this
    obtain ⟨l, e, rfl, _⟩ := hx.ptr_inv
    refine OutP.ofV hW fun v hv => ?_
    obtain ⟨v', h1, h2⟩ := loadVar_run hL hW e hv
    exact ⟨v', run_v (by simp [Instr.loadAt, Instr.sureAddr, h1]), h2⟩

omit hL hW in
theorem iLoad1_eq {t : TypeId} (h : aggOf L t = some false) (a : Value) (st : ISt) : iLoad1 a st = iLoad L t a st := by
  unfold iLoad1 iLoad loadVar
  rw [h]

include hL hW in
theorem storeVar_run {t : TypeId} {a : Addr} {l : Loc} (e : μ a.block = some l) {v v' : Value} (hv : VR μ v v') {st' : ISt} (h : storeVar L st t a v = some st') :
    ∃ w', (Go.storeVar t ⟨l.B, l.d + a.off, none⟩ v').run L.P w = .ok () w' ∧ WR μ st' w' ∧ Ext μ st w μ st' w' := by
  unfold storeVar at h
  cases ha : aggOf L t with
  | none => rw [ha] at h; cases h
  | some b =>
    rw [ha] at h
    cases b with
    | false =>
      change @Bool.rec (fun _ => Option ISt) none (st.store1 a v) (isOne (szOf L t)) = some st' at h
      cases ho : isOne (szOf L t) with
      | false => rw [ho] at h; cases h
      | true =>
        rw [ho] at h
        have hs : szOf L t = some 1 := by
          cases hz : szOf L t with
          | none => rw [hz] at ho; cases ho
          | some n => rw [hz] at ho; cases n with
            | zero => cases ho
            | succ n => cases n with
              | zero => rfl
              | succ n => cases ho
        change st.store1 a v = some st' at h
        unfold ISt.store1 at h
        cases h1 : oneCell v with
        | false => rw [h1] at h; cases h
        | true =>
          rw [h1] at h
          change withO st a.block (objSet (getO st.heap a.block) a.off v) = some st' at h
          cases hg : getO st.heap a.block with
          | row over dflt n elem ex =>
            rw [hg] at h
            change withO st a.block (@Bool.rec (fun _ => Option IObj) none (some (.row (setV over a.off v) dflt n elem ex)) (Nat.blt a.off n)) = some st' at h
            cases hb : Nat.blt a.off n with
            | false => rw [hb] at h; cases h
            | true =>
              rw [hb] at h
              cases h
              obtain ⟨q1, q2, q3⟩ := hW.set e hg (blt_true.1 hb) hv h1 L.P
              refine ⟨_, ?_, q2, q3⟩
              have hc : v'.cells = #[v'] := by
                have := hv.oneCell h1
                cases v' <;> first | rfl | (simp [Value.oneCell'] at this)
              simp [Go.storeVar, hc, hL.run_size hs, storeCells, add_plain, q1]
          | _ => rw [hg] at h; cases h
    | true =>
      change storeAgg L st t a v = some st' at h
      unfold storeAgg at h
      cases hs : szOf L t with
      | none => rw [hs] at h; cases h
      | some n =>
        rw [hs] at h
        simp only at h
        cases hq : Nat.beq (cellsL v).length n with
        | false => rw [hq] at h; cases h
        | true =>
          rw [hq] at h
          have hn := Nat.eq_of_beq_eq_true hq
          have ht : isTup v = false := by
            cases v <;> first | rfl | (exfalso; revert h; unfold ISt.store; intro h; cases h)
          have hlen := (hv.cells ht).length
          rw [cellsL_eq v'] at hlen
          obtain ⟨w', q1, q2, q3⟩ := hW.store (P := L.P) e h (hv.cells ht)
          refine ⟨w', ?_, q2, q3⟩
          rw [cellsL_eq] at q1
          have : v'.cells.size = n := by rw [← hn, hlen]; simp
          simp [Go.storeVar, hL.run_size hs, this, q1]

include hL hW in
theorem iStore_out {t : TypeId} {a a' v v' : Value} (hx : VR μ a a') (hv : VR μ v v') :
    Out μ st L.P w (iStore L t a v st) ((do Instr.storeAt t a' v'; pure .skip : Sem Next).run L.P w) := by
  unfold iStore
  cases hp : ptrOf a with
  | none => trivial
  | some p =>
    have := ptrOf_some hp; subst this
    obtain ⟨l, e, rfl, _⟩ := hx.ptr_inv
    show Out μ st L.P w (R.ofS (storeVar L st t p v)) _
    cases hs : storeVar L st t p v with
    | none => trivial
    | some st' =>
      obtain ⟨w', q1, q2, q3⟩ := storeVar_run hL hW e hv hs
      exact ⟨μ, w', by simp [Instr.storeAt, Instr.sureAddr, q1], q2, q3⟩

omit hL hW in
theorem iStore1_eq {t : TypeId} (h : aggOf L t = some false) (hs : szOf L t = some 1) (a v : Value) (st : ISt) : iStore1 a v st = iStore L t a v st := by
  unfold iStore1 iStore storeVar
  rw [h, hs]
  rfl

include hW in
/-- a new row, and what the machine has for it -/
theorem newRow_out {P : Program} {over : T Value} {dflt : List Value} {n : Nat} {elem : TypeId} {C : Array Value} (hn : C.size = n)
    (hC : ∀ i v, rowGet over dflt n i = some v → ∃ v', C[i]? = some v' ∧ VR μ v v') :
    ∃ μ', (newRow elem C).run P w = .ok ⟨w.heap.size, 0, none⟩ (w.alloc (.cells C elem)) ∧ μ' st.next = some ⟨w.heap.size, 0, 0⟩ ∧
      WR μ' (st.alloc (.row over dflt n elem true)).2 (w.alloc (.cells C elem)) ∧ Ext μ st w μ' (st.alloc (.row over dflt n elem true)).2 (w.alloc (.cells C elem)) := by
  have hle := Map.le_put hW.fresh ⟨w.heap.size, 0, 0⟩
  obtain ⟨q1, q2⟩ := hW.alloc (o := .row over dflt n elem true) (x := .cells C elem) ⟨w.heap.size, 0, 0⟩ rfl
    ⟨C, 0, 0, alloc_heap_new, by simp [hn], fun i v hv => let ⟨v', a, b⟩ := hC i v hv; ⟨v', by simpa using a, b.mono hle⟩, fun j _ _ => by omega, fun _ => ⟨rfl, hn, rfl⟩, fun h => by cases h⟩
  exact ⟨_, rfl, Map.put_same _ _ _, q1, q2⟩

omit hL in
theorem rowGet_flat {z : List Value} (hz : z.all flat = true) {i : Nat} {v : Value} {n : Nat} (h : rowGet .e z n i = some v) : i < n ∧ z[i % z.length]? = some v ∧ VR μ v v := by
  rw [rowGet_eq] at h
  split at h
  · rename_i hi
    rw [orZero_eq, getV_e] at h
    have h' : z[i % z.length]? = some v := h
    refine ⟨hi, h', ?_⟩
    have hm : v ∈ z := List.mem_of_getElem? h'
    exact VR.flat_refl (List.all_eq_true.1 hz v hm)
  · cases h

include hL hW in
theorem iAlloc_out {elem : TypeId} : Out μ st L.P w (iAlloc L elem st) ((do let v ← Instr.alloc elem true (.tuple #[]); pure (.value v) : Sem Next).run L.P w) := by
  unfold iAlloc zeroRow
  cases hz : zeroOf L elem with
  | none => trivial
  | some z =>
    obtain ⟨μ', h1, h2, h3, h4⟩ := newRow_out hW (P := L.P) (over := .e) (dflt := cellsL z) (n := (cellsL z).length) (elem := elem) (C := z.cells) (by rw [cellsL_eq]; simp) (by
      intro i v hv
      obtain ⟨g1, g2, g3⟩ := rowGet_flat (μ := μ) (okZ_cells (zeroOf_ok hz)) hv
      refine ⟨v, ?_, g3⟩
      rw [Nat.mod_eq_of_lt g1, cellsL_eq] at g2
      simpa using g2)
    refine ⟨_, μ', _, run_v ?_, .ptr (l := ⟨w.heap.size, 0, 0⟩) h2, h3, h4⟩
    simp [Instr.alloc, hL.run_zero hz, newVar, h1]

omit hL in
theorem rowGet_list {l : List Value} {i : Nat} {v : Value} (h : rowGet (listRow l 0 .e) [] l.length i = some v) : l[i]? = some v := by
  rw [rowGet_eq] at h
  split at h
  · rename_i hi
    have hg : getV (listRow l 0 .e) i = l.getD i undef := by rw [getV_listRow, if_pos ⟨Nat.zero_le _, by omega⟩]; rfl
    rw [orZero_eq, hg] at h
    split at h
    · simp at h
    · simpa [List.getD_eq_getElem?_getD, List.getElem?_eq_getElem hi] using h
  · cases h

omit hL in
include hW in
theorem iBox_out {P : Program} {elem : TypeId} {v v' : Value} (hv : VR μ v v') : Out μ st P w (iBox elem v st) ((do let v ← Instr.box elem v'; pure (.value v) : Sem Next).run P w) := by
  unfold iBox
  cases ht : isTup v with
  | true => trivial
  | false =>
  have hc := hv.cells ht
  obtain ⟨μ', h1, h2, h3, h4⟩ := newRow_out hW (P := P) (over := listRow (cellsL v) 0 .e) (dflt := []) (n := (cellsL v).length) (elem := elem) (C := v'.cells) (by rw [hc.length, cellsL_eq]; simp) (by
    intro i u hu
    obtain ⟨u', g1, g2⟩ := hc.get (rowGet_list hu)
    rw [cellsL_eq] at g1
    exact ⟨u', by simpa using g1, g2⟩)
  refine ⟨_, μ', _, run_v ?_, .ptr (l := ⟨w.heap.size, 0, 0⟩) h2, h3, h4⟩
  simp [Instr.box, newVar, h1]

include hW in
omit hL in
theorem iMap_out {P : Program} {t : TypeId} {r r' : Option Value} (hr : OptR μ r r') : Out μ st P w (iMap r st) ((do let v ← Instr.makeMap t r'; pure (.value v) : Sem Next).run P w) := by
  cases hr with
  | some h => trivial
  | none =>
    obtain ⟨q1, q2⟩ := hW.alloc (o := .map [] 0) (x := .map #[] 0) ⟨w.heap.size, 0, 0⟩ rfl ⟨#[], alloc_heap_new, .nil⟩
    exact ⟨_, _, _, rfl, .map (l := ⟨w.heap.size, 0, 0⟩) (Map.put_same _ _ _), q1, q2⟩

end
end Go.Ideal

/-
What an operation comes to over the ideal heap, it comes to in the machine: what builds.
-/
namespace Go.Ideal
open Go

/-- a row under way, and what the machine has for it -/
def RowR (μ : Map) (over : T Value) (dflt : List Value) (n : Nat) (A : Array Value) : Prop :=
  A.size = n ∧ ∀ i v, rowGet over dflt n i = some v → ∃ v', A[i]? = some v' ∧ VR μ v v'

inductive PsR (μ : Map) : List (Nat × Value) → List (Nat × Value) → Prop where
  | nil : PsR μ [] []
  | cons {i : Nat} {v v' : Value} {l l' : List (Nat × Value)} : VR μ v v' → PsR μ l l' → PsR μ ((i, v) :: l) ((i, v') :: l')

theorem fold_set (off : Nat) : ∀ (l : List Value) (k : Nat) (A : Array Value), off + k + l.length ≤ A.size →
    ((l.zipIdx k).foldl (fun cs (c, j) => cs.setIfInBounds (off + j) c) A).size = A.size ∧
    ∀ i, ((l.zipIdx k).foldl (fun cs (c, j) => cs.setIfInBounds (off + j) c) A)[i]? = if off + k ≤ i ∧ i < off + k + l.length then l[i - (off + k)]? else A[i]?
  | [], k, A, _ => ⟨rfl, fun i => by simp; intro h1 h2; omega⟩
  | v :: l, k, A, h => by
    simp only [List.zipIdx_cons, List.foldl_cons]
    simp only [List.length_cons] at h
    obtain ⟨h1, h2⟩ := fold_set off l (k + 1) (A.setIfInBounds (off + k) v) (by simp; omega)
    refine ⟨by simpa using h1, fun i => ?_⟩
    rw [h2 i]
    simp only [List.length_cons]
    by_cases hi : i = off + k
    · subst hi
      rw [if_neg (by omega), if_pos (by omega), Nat.sub_self]
      have : off + k < A.size := by omega
      simp [this]
    · by_cases hr : off + (k + 1) ≤ i ∧ i < off + (k + 1) + l.length
      · rw [if_pos hr, if_pos (by omega), show i - (off + k) = (i - (off + (k + 1))) + 1 by omega, List.getElem?_cons_succ]
      · rw [if_neg hr, if_neg (by omega), Array.getElem?_setIfInBounds_ne (Ne.symm hi)]

theorem rowPut_get {dflt : List Value} {n : Nat} : ∀ (vs : List Value) (i : Nat) (over over' : T Value), rowPut over n i vs = some over' → allOne vs = true →
    ∀ j, rowGet over' dflt n j = if i ≤ j ∧ j < i + vs.length then vs[j - i]? else rowGet over dflt n j
  | [], i, over, over', h, _, j => by simp [rowPut] at h; subst h; rw [if_neg]; simp
  | v :: vs, i, over, over', h, ha, j => by
    unfold rowPut at h
    unfold allOne at ha
    cases h1 : oneCell v with
    | false => rw [h1] at ha; cases ha
    | true =>
      rw [h1] at ha
      cases hb : Nat.blt i n with
      | false => rw [hb] at h; cases h
      | true =>
        rw [hb] at h
        have hlt := blt_true.1 hb
        rw [rowPut_get vs (Nat.succ i) _ _ h ha j, rowGet_set _ _ _ _ _ (isTup_of_one h1)]
        simp only [List.length_cons]
        by_cases hi : j = i
        · subst hi
          rw [if_neg (by omega), if_pos ⟨rfl, hlt⟩, if_pos (by omega), Nat.sub_self]; rfl
        · by_cases hr : Nat.succ i ≤ j ∧ j < Nat.succ i + vs.length
          · rw [if_pos hr, if_pos (by omega), show j - i = (j - Nat.succ i) + 1 by omega, List.getElem?_cons_succ]
          · rw [if_neg hr, if_neg (by omega), if_neg (by omega)]

theorem fill_ok {μ : Map} {place place' : Nat → Option (Nat × Nat)} (hp : ∀ i x, place i = some x → place' i = some x) {dflt : List Value} {n : Nat} : ∀ (ps : List (Nat × Value)) {ps' : List (Nat × Value)} {over over' : T Value} {A : Array Value},
    fillL place over n ps = some over' → PsR μ ps ps' → RowR μ over dflt n A → ∃ A', Instr.fill place' A ps' = some A' ∧ RowR μ over' dflt n A'
  | [], _, over, over', A, h, hps, hr => by cases hps; simp [fillL] at h; subst h; exact ⟨A, rfl, hr⟩
  | (i, v) :: l, _, over, over', A, h, hps, hr => by
    cases hps with
    | cons hv hl =>
    rename_i v' l'
    unfold fillL at h
    cases hpi : place i with
    | none => rw [hpi] at h; cases h
    | some x =>
      obtain ⟨off, size⟩ := x
      rw [hpi] at h
      simp only at h
      cases hc : (Nat.beq (cellsL v).length size).and ((Nat.ble (Nat.add off size) n).and (allOne (cellsL v))) with
      | false => rw [hc] at h; cases h
      | true =>
        rw [hc] at h
        simp only at h
        have hc1 : Nat.beq (cellsL v).length size = true ∧ Nat.ble (Nat.add off size) n = true ∧ allOne (cellsL v) = true := by
          revert hc; cases Nat.beq (cellsL v).length size <;> cases Nat.ble (Nat.add off size) n <;> cases allOne (cellsL v) <;> simp
        obtain ⟨c1, c2, c3⟩ := hc1
        have c1 := Nat.eq_of_beq_eq_true c1
        have c2 := Nat.le_of_ble_eq_true c2
        have c2 : off + size ≤ n := c2
        cases hq : rowPut over n off (cellsL v) with
        | none => rw [hq] at h; cases h
        | some c =>
          rw [hq] at h
          have ht : isTup v = false := by
            cases v <;> first | rfl | (exfalso; revert c3; simp [cellsL, allOne, oneCell])
          have hvc := hv.cells ht
          have hlen : v'.cells.size = size := by rw [← c1, hvc.length, cellsL_eq]; simp
          have hlen' : v'.cells.toList.length = size := by simpa using hlen
          obtain ⟨s1, s2⟩ := fold_set off v'.cells.toList 0 A (by rw [hr.1, hlen']; omega)
          have hA : v'.cells.zipIdx.foldl (fun cs (c, j) => cs.setIfInBounds (off + j) c) A = (v'.cells.toList.zipIdx 0).foldl (fun cs (c, j) => cs.setIfInBounds (off + j) c) A := by
            rw [← Array.foldl_toList, Array.toList_zipIdx]
          have hr' : RowR μ c dflt n (v'.cells.zipIdx.foldl (fun cs (c, j) => cs.setIfInBounds (off + j) c) A) := by
            rw [hA]
            refine ⟨by rw [s1, hr.1], fun j u hu => ?_⟩
            rw [rowPut_get _ _ _ _ hq c3] at hu
            rw [s2 j, hlen']
            rw [c1] at hu
            split at hu
            · rename_i hj
              rw [if_pos (by omega)]
              obtain ⟨u', g1, g2⟩ := hvc.get hu
              rw [cellsL_eq] at g1
              exact ⟨u', by simpa using g1, g2⟩
            · rename_i hj
              rw [if_neg (by omega)]
              exact hr.2 j u hu
          obtain ⟨A', g1, g2⟩ := fill_ok hp l h hl hr'
          refine ⟨A', ?_, g2⟩
          unfold Instr.fill
          rw [hp i _ hpi]
          simp only
          rw [if_neg (by simp [hlen, hr.1]; omega)]
          exact g1

theorem RowR.done {μ : Map} {over : T Value} {dflt : List Value} {n : Nat} {A : Array Value} (h : RowR μ over dflt n A) {l : List Value} (hl : rowMany over dflt n n 0 = some l) : VsR μ l A.toList := by
  obtain ⟨h1, h2⟩ := rowMany_eq over dflt n n 0 l hl
  refine VsR.of_get (by rw [h1]; simp [h.1]) fun i v v' e e' => ?_
  have hi : i < n := by
    rcases Nat.lt_or_ge i n with hi | hi
    · exact hi
    · rw [List.getElem?_eq_none (by omega)] at e; cases e
  have := h2 i hi
  rw [e] at this
  obtain ⟨u, g1, g2⟩ := h.2 _ _ this
  have e'' : A[i]? = some v' := by simpa using e'
  simp only [Nat.zero_add] at g1
  rw [e''] at g1
  cases g1
  exact g2

theorem RowR.zero {μ : Map} {z : Value} (hz : okZ z = true) : RowR μ .e (cellsL z) (cellsL z).length z.cells := by
  refine ⟨by rw [cellsL_eq]; simp, fun i v hv => ?_⟩
  obtain ⟨g1, g2, g3⟩ := rowGet_flat (μ := μ) (okZ_cells hz) hv
  refine ⟨v, ?_, g3⟩
  rw [Nat.mod_eq_of_lt g1, cellsL_eq] at g2
  simpa using g2

/-- a row of zeros -/
theorem RowR.zeros {μ : Map} {z : List Value} {za : Array Value} (hz : z.all flat = true) {n : Nat} (he : 0 < n → za.toList = z) : RowR μ .e z n ((Array.range n).map (za[· % za.size]!)) := by
  refine ⟨by simp, fun i v hv => ?_⟩
  obtain ⟨g1, g2, g3⟩ := rowGet_flat (μ := μ) hz hv
  refine ⟨v, ?_, g3⟩
  have hpos : 0 < n := by omega
  rw [← he hpos] at g2
  have hp0 : 0 < za.size := by
    rcases Nat.eq_zero_or_pos za.size with h | h
    · have : za.toList = [] := by simpa using h
      rw [this] at g2; simp at g2
    · exact h
  have hm : i % za.size < za.size := Nat.mod_lt _ hp0
  simp at g2
  simp [g1]
  rw [Array.getElem?_eq_getElem hm] at g2
  simp [hm]
  exact Option.some.inj g2

section
variable {L : Pg} (hL : LOk L) {μ : Map} {st : ISt} {w : World} (hW : WR μ st w)

include hL in
theorem mkPlaces_run : ∀ {fs : List Field} {pl : List (Nat × Nat)}, mkPlaces L fs = some pl →
    ((fs.mapM fun f => do pure (f.offset, ← sizeOf f.type)) : Sem (List (Nat × Nat))).run L.P w = .ok pl w
  | [], pl, h => by simp [mkPlaces] at h; subst h; simp
  | f :: fs, pl, h => by
    unfold mkPlaces at h
    cases hs : szOf L f.type with
    | none => rw [hs] at h; cases h
    | some n =>
      cases hm : mkPlaces L fs with
      | none => rw [hs, hm] at h; cases h
      | some l =>
        rw [hs, hm] at h; cases h
        have := mkPlaces_run hm
        simp only [List.mapM_cons, Sem.run_bind, hL.run_size hs, Result.andThen_ok, Sem.run_pure]
        rw [this]; rfl

include hL hW

theorem build_out {t : TypeId} {ps : List (Nat × Value)} {ps' : Array (Nat × Value)} (hps : PsR μ ps ps'.toList) :
    OutP μ st L.P w (.ofV st (build L t ps)) ((do let v ← Instr.build t ps'; pure (.value v) : Sem Next).run L.P w) := by
  refine OutP.ofV hW fun v hv => ?_
  unfold build at hv
  cases hz : zeroOf L t with
  | none => rw [hz] at hv; cases hv
  | some z =>
    rw [hz] at hv
    simp only at hv
    split at hv
    · rename_i fs hu
      cases hm : mkPlaces L fs.toList with
      | none => rw [hm] at hv; cases hv
      | some pl =>
        rw [hm] at hv
        simp only at hv
        cases hf : fillL (nth pl) .e (cellsL z).length ps with
        | none => rw [hf] at hv; cases hv
        | some c =>
          rw [hf] at hv
          simp only at hv
          cases hl : rowMany c (cellsL z) (cellsL z).length (cellsL z).length 0 with
          | none => rw [hl] at hv; cases hv
          | some l =>
            rw [hl] at hv; cases hv
            obtain ⟨A', g1, g2⟩ := fill_ok (place := nth pl) (place' := (pl.toArray[·]?)) (fun i x h => by rw [nth_eq] at h; simpa using h) ps hf hps (RowR.zero (μ := μ) (zeroOf_ok hz))
            refine ⟨.agg A', run_v ?_, .agg (g2.done hl)⟩
            have hmp := mkPlaces_run (w := w) hL hm
            simp [Instr.build, hL.run_zero hz, hL.run_und hu, Array.mapM_eq_mapM_toList]
            simp at hmp
            rw [hmp]
            have g1' : Instr.fill (fun x => pl[x]?) z.cells ps'.toList = some A' := by simpa using g1
            simp [g1']
    · rename_i len elem hu
      cases hs : szOf L elem with
      | none => rw [hs] at hv; cases hv
      | some k =>
        rw [hs] at hv
        simp only at hv
        cases hf : fillL (fun i => some (Nat.mul i k, k)) .e (cellsL z).length ps with
        | none => rw [hf] at hv; cases hv
        | some c =>
          rw [hf] at hv
          simp only at hv
          cases hl : rowMany c (cellsL z) (cellsL z).length (cellsL z).length 0 with
          | none => rw [hl] at hv; cases hv
          | some l =>
            rw [hl] at hv; cases hv
            obtain ⟨A', g1, g2⟩ := fill_ok (place := fun i => some (Nat.mul i k, k)) (place' := fun i => some (i * k, k)) (fun i x h => h) ps hf hps (RowR.zero (μ := μ) (zeroOf_ok hz))
            refine ⟨.agg A', run_v ?_, .agg (g2.done hl)⟩
            simp [Instr.build, hL.run_zero hz, hL.run_und hu, hL.run_size hs, g1]
    · cases hv

theorem buildSlice_out {t : TypeId} {len : Nat} {ps : List (Nat × Value)} {ps' : Array (Nat × Value)} (hps : PsR μ ps ps'.toList) :
    Out μ st L.P w (buildSlice L st t len ps) ((do let v ← Instr.buildSlice t len ps'; pure (.value v) : Sem Next).run L.P w) := by
  unfold buildSlice
  split
  · rename_i elem hu
    cases hs : szOf L elem with
    | none => trivial
    | some k =>
      simp only
      cases hb : (Nat.ble (Nat.mul len k) 65536).and (Nat.ble len 65536) with
      | false => trivial
      | true =>
        have hb2 : Nat.ble (Nat.mul len k) 65536 = true ∧ Nat.ble len 65536 = true := by
          revert hb; cases Nat.ble (Nat.mul len k) 65536 <;> cases Nat.ble len 65536 <;> simp
        have hle : len * k ≤ 65536 := Nat.le_of_ble_eq_true hb2.1
        have hle2 : len ≤ 65536 := Nat.le_of_ble_eq_true hb2.2
        simp only
        have hzz : ∀ {zl : List Value}, ((match Nat.mul len k with | 0 => some [] | _ => (match zeroOf L elem with | some z => some (cellsL z) | none => none)) = some zl) →
            ∃ za : Array Value, ((len * k = 0 ∧ za = #[]) ∨ (len * k ≠ 0 ∧ ∃ z, (zeroValue elem).run L.P w = .ok z w ∧ za = z.cells)) ∧ za.toList = zl ∧ zl.all flat = true := by
          intro zl h
          split at h
          · rename_i h0
            cases h
            have h0 : len * k = 0 := h0
            exact ⟨#[], .inl ⟨h0, rfl⟩, rfl, rfl⟩
          · rename_i h0
            have h0 : ¬ len * k = 0 := h0
            cases hz : zeroOf L elem with
            | none => rw [hz] at h; cases h
            | some z =>
              rw [hz] at h; cases h
              exact ⟨z.cells, .inr ⟨h0, z, hL.run_zero hz, rfl⟩, (cellsL_eq z).symm, okZ_cells (zeroOf_ok hz)⟩
        split
        · trivial
        · rename_i zl hzl
          obtain ⟨za, z1, z2, z3⟩ := hzz hzl
          have hR : RowR μ .e zl (len * k) ((Array.range (len * k)).map (za[· % za.size]!)) := RowR.zeros z3 (fun _ => z2)
          cases hf : fillL (fun i => some (Nat.mul i k, k)) .e (Nat.mul len k) ps with
          | none => trivial
          | some c =>
            obtain ⟨A', g1, g2, g3⟩ := fill_ok (place := fun i => some (Nat.mul i k, k)) (place' := fun i => some (i * k, k)) (fun i x h => h) ps hf hps hR
            obtain ⟨μ', h1, h2, h3, h4⟩ := newRow_out hW (P := L.P) (elem := elem) g2 g3
            refine ⟨_, μ', _, run_v ?_, .slice (l := ⟨w.heap.size, 0, 0⟩) h2 (.inl ⟨?_, rfl⟩), h3, h4⟩
            · have hn : ¬ 2 ^ 24 < len * k := by omega
              rcases z1 with ⟨q1, rfl⟩ | ⟨q1, z, q2, rfl⟩
              · simp only [Instr.buildSlice, Sem.run_bind, hL.run_und hu, Result.andThen_ok, hL.run_size hs, if_neg hn, Sem.run_pure, if_pos q1, g1, h1, Nat.add_zero]
              · simp only [Instr.buildSlice, Sem.run_bind, hL.run_und hu, Result.andThen_ok, hL.run_size hs, if_neg hn, Sem.run_pure, if_neg q1, q2, g1, h1, Nat.add_zero]
            · show len < UNK
              unfold UNK; omega
  · trivial

theorem makeSlice_out {t : TypeId} {len cap len' cap' : Value} (hl : VR μ len len') (hc : VR μ cap cap') :
    Out μ st L.P w (makeSlice L st t len cap) ((do let v ← Instr.makeSlice t len' cap'; pure (.value v) : Sem Next).run L.P w) := by
  unfold makeSlice
  split
  · rename_i elem k l k2 c hu
    have := hl.int_inv; subst this
    have := hc.int_inv; subst this
    split
    · rename_i i hb1 hb2 hi
      have hb1 := Nat.le_of_ble_eq_true hb1
      have hb2 := Nat.le_of_ble_eq_true hb2
      split
      · rename_i z hb3 hz
        have hb3 : i.bytes * c ≤ 140737488355328 := Nat.le_of_ble_eq_true hb3
        have hz0 : zeroOf L elem = some z := by unfold zeroOf; rw [hi]; exact hz
        have hs : szOf L elem = some i.size := by unfold szOf; rw [hi]
        have wl : IntKind.i64.wrap (Int.ofNat l) = Int.ofNat l := wrap_in (blt_true.2 (by omega))
        have wc : IntKind.i64.wrap (Int.ofNat c) = Int.ofNat c := wrap_in (blt_true.2 (by omega))
        have hrr : ∃ za : Array Value, ((c * i.size = 0 ∧ za = #[]) ∨ (c * i.size ≠ 0 ∧ za = z.cells)) ∧ (0 < c * i.size → za.toList = cellsL z) := by
          by_cases h0 : c * i.size = 0
          · exact ⟨#[], .inl ⟨h0, rfl⟩, fun h => by omega⟩
          · exact ⟨z.cells, .inr ⟨h0, rfl⟩, fun _ => (cellsL_eq z).symm⟩
        obtain ⟨za, z1, z2⟩ := hrr
        have hR : RowR μ .e (cellsL z) (c * i.size) ((Array.range (c * i.size)).map (za[· % za.size]!)) := RowR.zeros (okZ_cells (zeroOf_ok hz0)) z2
        obtain ⟨μ', h1, h2, h3, h4⟩ := newRow_out hW (P := L.P) (elem := elem) hR.1 hR.2
        refine ⟨_, μ', _, run_v ?_, .slice (l := ⟨w.heap.size, 0, 0⟩) h2 (.inl ⟨?_, rfl⟩), h3, h4⟩
        · have n1 : ¬ (Int.ofNat c < 0) := by simp
          have n2 : ¬ ((i.bytes : Int) * Int.ofNat c > 2 ^ 48) := by
            have : ((i.bytes : Int) * Int.ofNat c) = ((i.bytes * c : Nat) : Int) := by simp
            rw [this]; omega
          have n3 : ¬ (Int.ofNat l < 0) := by simp
          have n4 : ¬ (Int.ofNat l > Int.ofNat c) := by simp; exact hb1
          have hroom : ∀ b, (askRoom b).run L.P w = .ok () w := by intro b; unfold askRoom; split <;> simp [mark, Sem.run]
          have hcn : (Int.ofNat c).toNat = c := rfl
          have hln : (Int.ofNat l).toNat = l := rfl
          have n5 : (decide (Int.ofNat c < 0) || decide ((i.bytes : Int) * Int.ofNat c > 2 ^ 48)) = false := by
            rw [decide_eq_false n1, decide_eq_false n2]; rfl
          rcases z1 with ⟨q1, rfl⟩ | ⟨q1, rfl⟩
          · simp only [Instr.makeSlice, asInt, asIntOf, Sem.run_bind, hL.run_und hu, Result.andThen_ok, Sem.run_pure, hL.run_info hi, wl, wc, n5, decide_eq_false n3, decide_eq_false n4, Bool.or_false, Bool.false_eq_true, ↓reduceIte, hroom, hcn, hln, hL.run_size hs, if_pos q1, h1, Nat.add_zero]
          · simp only [Instr.makeSlice, asInt, asIntOf, Sem.run_bind, hL.run_und hu, Result.andThen_ok, Sem.run_pure, hL.run_info hi, wl, wc, n5, decide_eq_false n3, decide_eq_false n4, Bool.or_false, Bool.false_eq_true, ↓reduceIte, hroom, hcn, hln, hL.run_size hs, if_neg q1, hL.run_zero hz0, h1, Nat.add_zero]
        · show c < UNK
          unfold UNK; omega
      · trivial
    · trivial
  · trivial

end
end Go.Ideal

/-
What an operation comes to over the ideal heap, it comes to in the machine: what is appended.
-/
namespace Go.Ideal
open Go

/-- cells are written into a block, one behind the other -/
theorem store_raw {P : Program} {B : Nat} {elem : TypeId} {fz : Nat × Nat} : ∀ (vs : List Value) (p i : Nat) (w : World) (C : Array Value), w.heap[B]? = some (.cells C elem fz) →
    p + i + vs.length ≤ C.size → (∀ j, p + i ≤ j → j < p + i + vs.length → ¬ (fz.1 ≤ j ∧ j < fz.2)) → (∀ v, v ∈ vs → v.oneCell' = true) →
    ∃ w' C', (storeCells ⟨B, p, none⟩ vs i).run P w = .ok () w' ∧ w'.heap[B]? = some (.cells C' elem fz) ∧ C'.size = C.size ∧
      (∀ j, C'[j]? = if p + i ≤ j ∧ j < p + i + vs.length then vs[j - (p + i)]? else C[j]?) ∧ (∀ D, D ≠ B → w'.heap[D]? = w.heap[D]?) ∧
      w'.heap.size = w.heap.size ∧ w'.tape = w.tape ∧ w'.os = w.os ∧ w'.output = w.output
  | [], p, i, w, C, h, _, _, _ => ⟨w, C, rfl, h, rfl, fun j => by rw [if_neg]; simp, fun _ _ => rfl, rfl, rfl, rfl, rfl⟩
  | v :: vs, p, i, w, C, h, hs, hf, ho => by
    simp only [List.length_cons] at hs hf
    have hh := setCell_heap (i := p + i) h v
    obtain ⟨w', C', h1, h2, h3, h4, h5, h6, h7, h8, h9⟩ := store_raw (P := P) vs p (i + 1) (w.setCell ⟨B, p + i, none⟩ v) _ hh (by simp; omega) (fun j h1 h2 => hf j (by omega) (by omega)) (fun u hu => ho u (by simp [hu]))
    refine ⟨w', C', ?_, h2, by simpa using h3, ?_, fun D hD => by rw [h5 D hD, setCell_other v D hD], by rw [h6]; simp [World.setCell], h7, h8, h9⟩
    · have h1v := ho v (by simp)
      have hlt : p + i < C.size := by omega
      have hc : w.cell? ⟨B, p + i, none⟩ = some C[p + i] := by simp [World.cell?, h, hlt]
      have hfz : w.frozen? ⟨B, p + i, none⟩ = false := by
        simp [World.frozen?, h]
        have := hf (p + i) (by omega) (by omega)
        omega
      have hst : (store ⟨B, p + i, none⟩ v).run P w = .ok () (w.setCell ⟨B, p + i, none⟩ v) := by
        cases v <;> first | (simp [Value.oneCell'] at h1v; done) | (simp [store, Sem.run, hc, hfz])
      unfold storeCells
      rw [Sem.run_bind, add_plain, hst, Result.andThen_ok]
      exact h1
    · intro j
      rw [h4 j]
      by_cases hj : j = p + i
      · subst hj
        rw [if_neg (by omega), if_pos (by simp), Nat.sub_self]
        have hlt : p + i < C.size := by omega
        simp [hlt]
      · simp only [List.length_cons]
        by_cases hr : p + (i + 1) ≤ j ∧ j < p + (i + 1) + vs.length
        · rw [if_pos hr, if_pos (by omega), show j - (p + i) = (j - (p + (i + 1))) + 1 by omega, List.getElem?_cons_succ]
        · rw [if_neg hr, if_neg (by omega), Array.getElem?_setIfInBounds_ne (Ne.symm hj)]

theorem allOne_mem : ∀ {l : List Value}, allOne l = true → ∀ v, v ∈ l → oneCell v = true
  | [], _, v, h => by cases h
  | a :: l, h, v, hv => by
    unfold allOne at h
    cases h1 : oneCell a with
    | false => rw [h1] at h; cases h
    | true =>
      rw [h1] at h
      rcases List.mem_cons.1 hv with rfl | hv
      · exact h1
      · exact allOne_mem h v hv

theorem VsR.allOne {μ : Map} : ∀ {l l' : List Value}, VsR μ l l' → Ideal.allOne l = true → ∀ v, v ∈ l' → v.oneCell' = true
  | [], _, h, _, v, hv => by cases h; cases hv
  | a :: l, _, h, ho, v, hv => by
    cases h with
    | cons h1 h2 =>
      rcases List.mem_cons.1 hv with rfl | hv
      · exact h1.oneCell (allOne_mem ho a (by simp))
      · refine VsR.allOne h2 ?_ v hv
        unfold Ideal.allOne at ho
        cases h1 : Ideal.oneCell a with
        | false => rw [h1] at ho; cases ho
        | true => rw [h1] at ho; exact ho

theorem bytesV_eq (l : List UInt8) : bytesV l = l.map fun b => .int .u8 b.toNat := by
  induction l with
  | nil => rfl
  | cons b l ih => simp [bytesV, ih]

section
variable {L : Pg} (hL : LOk L) {μ : Map} {st : ISt} {w : World} (hW : WR μ st w)

theorem lenOf_run {P : Program} {x x' : Value} (hx : VR μ x x') {n : Nat} (h : lenOf x = some n) : (Builtin.lenOf x').run P w = .ok n w := by
  cases x with
  | slice a m c => cases h; cases hx <;> rfl
  | string s => cases h; cases hx; rw [string_size]; rfl
  | _ => cases h

include hW in
theorem firstCells_run {P : Program} {x x' : Value} (hx : VR μ x x') {k n : Nat} {l : List Value} (h : firstCells st k n x = some l) (hn : lenOf x = some n) :
    ∃ l', (Builtin.firstCells k n x').run P w = .ok l'.toArray w ∧ VsR μ l l' := by
  cases x with
  | slice a m c =>
    cases hn
    cases a with
    | none =>
      cases hx
      cases n with
      | zero => cases h; exact ⟨[], rfl, .nil⟩
      | succ m => cases h
    | some a =>
      cases n with
      | zero =>
        cases h
        refine ⟨[], ?_, .nil⟩
        cases hx <;> simp [Builtin.firstCells, loadCells, loadCellsFrom]
      | succ m =>
        cases hx with
        | slice e hc =>
          obtain ⟨l', h1, h2⟩ := hW.run_cells (P := P) e (show objCells _ ((m + 1) * k) _ = some l from h)
          exact ⟨l', h2, h1⟩
  | string s =>
    cases hn; cases hx
    unfold firstCells at h
    simp only at h
    split at h
    case h_2 => cases h
    cases h
    rw [List.take_of_length_le (Nat.le_refl _), bytesV_eq]
    refine ⟨_, ?_, VsR.flat_refl ?_⟩
    · rw [string_size]
      simp [Builtin.firstCells]
      apply Array.ext'
      simp
    · rw [List.all_eq_true]
      intro x hx
      obtain ⟨b, _, rfl⟩ := List.mem_map.1 hx
      rfl
  | _ => cases hn

theorem objCells_len {o : IObj} {k i : Nat} {l : List Value} (h : objCells o k i = some l) : l.length = k := by
  cases o with
  | row over dflt n elem ex => exact (rowMany_eq _ _ _ _ _ _ h).1
  | rom cs n => exact (rowMany_eq _ _ _ _ _ _ h).1
  | _ => cases h

theorem firstCells_len {x : Value} {k n : Nat} {l : List Value} (h : firstCells st k n x = some l) (hn : lenOf x = some n) : l.length = n * k := by
  cases x with
  | slice a m c =>
    cases hn
    cases a with
    | none =>
      cases n with
      | zero => cases h; simp
      | succ m => cases h
    | some a =>
      cases n with
      | zero => cases h; simp
      | succ m => exact objCells_len (show objCells _ ((m + 1) * k) _ = some l from h)
  | string s =>
    cases hn
    unfold firstCells at h
    simp only at h
    split at h
    · rename_i hk
      have := Nat.eq_of_beq_eq_true hk
      cases h
      rw [List.take_of_length_le (Nat.le_refl _), bytesV_eq, this]; simp
    · cases h
  | _ => cases hn

end
end Go.Ideal
