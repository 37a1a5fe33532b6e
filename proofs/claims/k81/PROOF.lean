import PyProof.Rows.All
import Wide.All
import OpenK.AllK
import Wide.FinOn
import HandS.ForMost
import KE.SortData
import KE.DataEq
import KE.DataCmp
import KE.DataMinMax
import HandS.Deep
import HandS.TupAny
import HandS.TupMul
import HandS.Wide
import HandS.Style
import KE.KeyNested
import KE.KDictKeyed
import KE.KRevSl
import HandS.IsInst
import HandS.Text
import KE.DataFind
import KE.DataIsa
import PyProof.TupleOfStr
import HandS.TupLen
import HandS.Strs
import KE.GoesNew
import HandS.Iter
import HandS.Zip
import HandS.Walk
import HandS.Comp
import HandS.CallLocal
import HandS.Words
import KE.KDictSum
import KE.KDictCopyH
import KE.KDictItemsList
import HandS.DictTup
import KE.KDictPairs
import HandS.Conv
import HandS.TupSets
import PySem.Challenge.RW_truthtold_k81_whole_rounds_of_nets
set_option Elab.async false
set_option linter.all false
set_option maxRecDepth 100000
/-! The evaluator: values, boxes, operations on data, the meaning of expressions and statements as plain functions. -/
namespace Ev
open PySem PySem.Spec PyProof.Rows

/-! ## values, cells, outcomes -/
/-- what a name or an expression holds: data, a box (a list or dict that may change), a def of the text -/
inductive W where
  | d (x : PyData)
  | bx (n : Nat)
  | fn (i : Nat)
  deriving Inhabited
/-- a box: it may change; a loop walks it (it may not change meanwhile); it is closed for good -/
inductive CSt where
  | live
  | lock
  | shut
structure Cell where
  val : PyData
  st : CSt
abbrev Store := List Cell
structure Exn where
  cls : Str
  arg : PyData
inductive Out (α : Type) where
  | ok (a : α) (st : Store)
  | err (x : Exn) (st : Store)
  | no
abbrev M (α : Type) := Store → Out α
namespace M
def pure {α : Type} (a : α) : M α := fun st => .ok a st
def bind {α β : Type} (f : M α) (g : α → M β) : M β := fun st => match f st with
  | .ok a st' => g a st'
  | .err x st' => .err x st'
  | .no => .no
def no {α : Type} : M α := fun _ => .no
def ofOpt {α : Type} : Option α → M α
  | some a => pure a
  | none => no
end M
abbrev Env := List (Option W)
abbrev Calls := Nat → List W → M W
abbrev Sm (α : Type) := Calls → Env → M α

/-! ## boxes -/
/-- the data a value stands for -/
def deref : W → M PyData
  | .d x => M.pure x
  | .bx n => fun st => match st[n]? with
    | some c => .ok c.val st
    | none => .no
  | .fn _ => M.no
/-- as data that stays: a list's box is closed -/
def toD : W → M PyData
  | .d x => M.pure x
  | .bx n => fun st => match st[n]? with
    | some ⟨.list ds, .lock⟩ => .no
    | some ⟨.list ds, _⟩ => .ok (.list ds) (st.set n ⟨.list ds, .shut⟩)
    | _ => .no
  | .fn _ => M.no
/-- an argument: a closed box is its data -/
def argW : W → M W
  | .bx n => fun st => match st[n]? with
    | some ⟨v, .shut⟩ => .ok (.d v) st
    | some _ => .ok (.bx n) st
    | none => .no
  | w => M.pure w
def newBox (v : PyData) : M W := fun st => .ok (.bx st.length) (st ++ [⟨v, .live⟩])
def setBox (n : Nat) (v : PyData) : M Unit := fun st => match st[n]? with
  | some ⟨_, .live⟩ => .ok () (st.set n ⟨v, .live⟩)
  | _ => .no
/-- the content of a box that may change -/
def liveAt : W → M (Nat × PyData)
  | .bx n => fun st => match st[n]? with
    | some ⟨v, .live⟩ => .ok (n, v) st
    | _ => .no
  | _ => M.no

/-! ## operations on data -/
def mulOk (i j : Int) : Bool := (decide (-(2 ^ 64) < i) && decide (i < 2 ^ 64)) || (decide (-(2 ^ 64) < j) && decide (j < 2 ^ 64))
def binD : Operator → PyData → PyData → Option PyData
  | .Add, .int i, .int j => some (.int (i + j))
  | .Add, .str x, .str y => if x.length + y.length ≤ sizeLine then some (.str (x ++ y)) else none
  | .Add, .list x, .list y => if x.length + y.length ≤ sizeLine then some (.list (x ++ y)) else none
  | .Add, .tuple x, .tuple y => if x.length + y.length ≤ sizeLine then some (.tuple (x ++ y)) else none
  | .Sub, .int i, .int j => some (.int (i - j))
  | .Mult, .int i, .int j => if mulOk i j then some (.int (i * j)) else none
  | .Mult, .tuple x, .int k => if 0 ≤ k ∧ k ≤ 1000 ∧ x.length ≤ 1000 then some (.tuple (List.replicate k.toNat x).flatten) else none
  | .Mult, .str x, .int k => if 0 ≤ k ∧ k ≤ 1000 ∧ x.length ≤ 1000 then some (.str ⟨(List.replicate k.toNat x.cps.toList).flatten.toArray⟩) else none
  | .FloorDiv, .int i, .int j => if 0 < j ∧ j.natAbs < 2 ^ 200 then some (.int (i / j)) else none
  | .Mod, .int i, .int j => if 0 < j then some (.int (i % j)) else none
  | .Pow, .int i, .int j => if 0 ≤ j ∧ j ≤ 1000000 ∧ i.natAbs < 2 ^ 64 then some (.int (i ^ j.toNat)) else none
  | .LShift, .int i, .int j => if 0 ≤ j ∧ j ≤ 1000000 ∧ i.natAbs < 2 ^ 64 then some (.int (i * 2 ^ j.toNat)) else none
  | .RShift, .int i, .int j => if 0 ≤ j then some (.int (i / 2 ^ j.toNat)) else none
  | .BitAnd, .int i, .int j => some (.int (Builtin.bitAnd i j))
  | .BitOr, .int i, .int j => some (.int (Builtin.bitOr i j))
  | .BitXor, .int i, .int j => some (.int (Builtin.bitXor i j))
  | _, _, _ => none
def shallow (a : PyData) : Bool := decide (a.depth ≤ 60)
def eqD (a b : PyData) : Option Bool := if shallow a && shallow b then some (PyData.eqv a b) else none
def inD (a : PyData) : PyData → Option Bool
  | .list xs => if shallow a && shallow (.list xs) then some (xs.any fun z => PyData.eqv z a) else none
  | .tuple xs => if shallow a && shallow (.tuple xs) then some (xs.any fun z => PyData.eqv z a) else none
  | .str y => match a with
    | .str x => some (!(Builtin.Str.occurrences y x 0 y.length 1).isEmpty)
    | _ => none
  | _ => none
def ltD (a b : PyData) : Option Bool :=
  match a, b with
  | .int i, .int j => some (decide (i < j))
  | a, b => if W.alike a b && shallow a && shallow b && (match a with | .none => false | _ => true) then some (W.dataLt a b) else none
def isNone : PyData → Bool
  | .none => true
  | _ => false
/-- of data without a dict -/
def cmpP : CmpOp → PyData → PyData → Option Bool
  | .Eq, a, b => eqD a b
  | .NotEq, a, b => (eqD a b).map not
  | .Lt, a, b => ltD a b
  | .Gt, a, b => match a, b with
    | .int i, .int j => some (decide (j < i))
    | _, _ => none
  | .LtE, a, b => match a, b with
    | .int i, .int j => some (decide (i ≤ j))
    | _, _ => none
  | .GtE, a, b => match a, b with
    | .int i, .int j => some (decide (j ≤ i))
    | _, _ => none
  | .In, a, b => inD a b
  | .NotIn, a, b => (inD a b).map not
  | .Is, a, b => match b with
    | .none => some (isNone a)
    | _ => none
  | .IsNot, a, b => match b with
    | .none => some (!isNone a)
    | _ => none
def isDict : PyData → Bool
  | .dict _ => true
  | _ => false
mutual
def keyed : PyData → Bool
  | .none => true
  | .int _ => true
  | .str _ => true
  | .tuple xs => keyedAll xs
  | _ => false
def keyedAll : List PyData → Bool
  | [] => true
  | x :: xs => keyed x && keyedAll xs
end
/-- what may be a key: numbers, texts; tuples of such, nested -/
def keyOk (k : PyData) : Bool := keyed k && decide (k.depth ≤ 8) && !isNone k
def isTup : PyData → Bool
  | .tuple _ => true
  | _ => false
/-- the keys of a dict: all tuples, or none -/
def keyFits (kvs : List (PyData × PyData)) (k : PyData) : Bool := keyOk k && kvs.all fun kv => isTup kv.1 == isTup k
def inDict (op : CmpOp) (kvs : List (PyData × PyData)) (k : PyData) : Option Bool :=
  if keyFits kvs k then match op with
    | .In => some (kvs.any fun kv => PyData.eqv kv.1 k)
    | .NotIn => some (!kvs.any fun kv => PyData.eqv kv.1 k)
    | _ => none
  else none
def cmpD (op : CmpOp) (a b : PyData) : Option Bool :=
  match isDict a with
  | true => none
  | false => match b with
    | .dict kvs => inDict op kvs a
    | b => cmpP op a b
def itemD (a i : PyData) : Option PyData :=
  match a, i with
  | .list xs, .int i => L2.atI xs i
  | .tuple xs, .int i => L2.atI xs i
  | .str x, .int i => if x.length ≤ sizeLine then (L2.atI x.cps.toList i).map fun c => .str ⟨#[c]⟩ else none
  | .dict kvs, k => if keyFits kvs k then (kvs.find? fun kv => PyData.eqv kv.1 k).map (·.2) else none
  | _, _ => none
def cutL {α : Type} (xs : List α) (lo hi : Option Int) : List α := (xs.drop (HT.sIx xs.length 0 lo)).take (HT.sIx xs.length xs.length hi - HT.sIx xs.length 0 lo)
def revL {α : Type} (xs : List α) : List α := xs.reverse
/-- a[lo:hi] -/
def sliceD (a : PyData) (lo hi : Option Int) : Option PyData :=
  match a with
  | .list xs => some (.list (cutL xs lo hi))
  | .tuple xs => some (.tuple (cutL xs lo hi))
  | .str x => if x.length ≤ sizeLine then some (.str (L2.cutS x lo hi)) else none
  | _ => none
/-- a[::-1] -/
def backD : PyData → Option PyData
  | .list xs => some (.list xs.reverse)
  | .tuple xs => some (.tuple xs.reverse)
  | .str x => if x.length ≤ sizeLine then some (.str ⟨x.cps.reverse⟩) else none
  | _ => none
def truthD : PyData → Option Bool
  | .none => some false
  | .bool b => some b
  | .int i => some (i != 0)
  | .str x => if x.length ≤ sizeLine then some ((x.length : Int) != 0) else none
  | .list xs => some (!xs.isEmpty)
  | .tuple xs => some (!xs.isEmpty)
  | .dict _ => none
def negD : PyData → Option PyData
  | .int i => some (.int (-i))
  | _ => none

/-! ## expressions -/
def eVar (i : Nat) : Sm W := fun _ ρ => match ρ[i]? with
  | some (some w) => M.pure w
  | _ => M.no
def eD (x : PyData) : Sm W := fun _ _ => M.pure (.d x)
def eFn (i : Nat) : Sm W := fun _ _ => M.pure (.fn i)
/-- the data of an expression's value -/
def eDat (f : Sm W) : Sm PyData := fun cl ρ => M.bind (f cl ρ) deref
/-- items of a display, from the left; each as data that stays -/
def evalsD : List (Sm W) → Sm (List PyData)
  | [] => fun _ _ => M.pure []
  | f :: fs => fun cl ρ => M.bind (f cl ρ) fun w => M.bind (toD w) fun x => M.bind (evalsD fs cl ρ) fun xs => M.pure (x :: xs)
/-- arguments, from the left -/
def evalsA : List (Sm W) → Sm (List W)
  | [] => fun _ _ => M.pure []
  | f :: fs => fun cl ρ => M.bind (f cl ρ) fun w => M.bind (argW w) fun x => M.bind (evalsA fs cl ρ) fun xs => M.pure (x :: xs)
def eTup (fs : List (Sm W)) : Sm W := fun cl ρ => M.bind (evalsD fs cl ρ) fun ds => M.pure (.d (.tuple ds))
def nList (fs : List (Sm W)) : Sm PyData := fun cl ρ => M.bind (evalsD fs cl ρ) fun ds => M.pure (.list ds)
/-- a new list as data, as a box -/
def listOnly : PyData → M W
  | .list ds => M.pure (.d (.list ds))
  | _ => M.no
def eNew (f : Sm PyData) : Sm W := fun cl ρ => M.bind (f cl ρ) listOnly
def eBox (f : Sm PyData) : Sm W := fun cl ρ => M.bind (f cl ρ) newBox
def e2 (f g : Sm W) (k : PyData → PyData → Option PyData) : Sm W := fun cl ρ => M.bind (f cl ρ) fun x => M.bind (g cl ρ) fun y =>
  M.bind (deref x) fun a => M.bind (deref y) fun b => M.bind (M.ofOpt (k a b)) fun c => M.pure (.d c)
def eBin (op : Operator) (f g : Sm W) : Sm W := e2 f g (binD op)
def eCmp (op : CmpOp) (f g : Sm W) : Sm W := e2 f g fun a b => (cmpD op a b).map .bool
/-- a op b op' c -/
def eChain (op op' : CmpOp) (f g h : Sm W) : Sm W := fun cl ρ => M.bind (f cl ρ) fun x => M.bind (g cl ρ) fun y =>
  M.bind (deref x) fun a => M.bind (deref y) fun b => M.bind (M.ofOpt (cmpD op a b)) fun t =>
    match t with
    | false => M.pure (.d (.bool false))
    | true => M.bind (h cl ρ) fun z => M.bind (deref y) fun b' => M.bind (deref z) fun c => M.bind (M.ofOpt (cmpD op' b' c)) fun t' => M.pure (.d (.bool t'))
def eItem (f g : Sm W) : Sm W := e2 f g itemD
def e1 (f : Sm W) (k : PyData → Option PyData) : Sm W := fun cl ρ => M.bind (f cl ρ) fun x => M.bind (deref x) fun a => M.bind (M.ofOpt (k a)) fun c => M.pure (.d c)
/-- a part of a slice -/
def evalPartI : Option (Sm W) → Sm (Option Int)
  | none => fun _ _ => M.pure none
  | some f => fun cl ρ => M.bind (f cl ρ) fun x => match x with
    | .d (.int i) => M.pure (some i)
    | _ => M.no
def eSlice (f : Sm W) (lo hi : Option (Sm W)) : Sm W := fun cl ρ => M.bind (f cl ρ) fun x => M.bind (evalPartI lo cl ρ) fun l => M.bind (evalPartI hi cl ρ) fun u =>
  M.bind (deref x) fun a => M.bind (M.ofOpt (sliceD a l u)) fun c => M.pure (.d c)
/-- tests -/
def tOf (f : Sm W) : Sm Bool := fun cl ρ => M.bind (f cl ρ) fun x => M.bind (deref x) fun a => M.ofOpt (truthD a)
def tNot (t : Sm Bool) : Sm Bool := fun cl ρ => M.bind (t cl ρ) fun b => M.pure (!b)
def tAnd (t u : Sm Bool) : Sm Bool := fun cl ρ => M.bind (t cl ρ) fun b => match b with
  | true => u cl ρ
  | false => M.pure false
def tOr (t u : Sm Bool) : Sm Bool := fun cl ρ => M.bind (t cl ρ) fun b => match b with
  | true => M.pure true
  | false => u cl ρ
/-- and, or, not as values: truth values ahead of the last -/
def asBool : W → M Bool
  | .d (.bool b) => M.pure b
  | _ => M.no
def eAnd (f g : Sm W) : Sm W := fun cl ρ => M.bind (f cl ρ) fun x => M.bind (asBool x) fun b => match b with
  | true => g cl ρ
  | false => M.pure (.d (.bool false))
def eOr (f g : Sm W) : Sm W := fun cl ρ => M.bind (f cl ρ) fun x => M.bind (asBool x) fun b => match b with
  | true => M.pure (.d (.bool true))
  | false => g cl ρ
def eNot (f : Sm W) : Sm W := fun cl ρ => M.bind (f cl ρ) fun x => M.bind (asBool x) fun b => M.pure (.d (.bool (!b)))
def eIf (t : Sm Bool) (f g : Sm W) : Sm W := fun cl ρ => M.bind (t cl ρ) fun b => match b with
  | true => f cl ρ
  | false => g cl ρ
/-- a def of the text called -/
def eCall (i : Nat) (fs : List (Sm W)) : Sm W := fun cl ρ => M.bind (evalsA fs cl ρ) fun ws => cl i ws
/-- a name that holds a def, called -/
def eCallV (j : Nat) (fs : List (Sm W)) : Sm W := fun cl ρ => M.bind (eVar j cl ρ) fun f => match f with
  | .fn i => M.bind (evalsA fs cl ρ) fun ws => cl i ws
  | _ => M.no
/-- a built-in called with data -/
def evalsR : List (Sm W) → Sm (List W)
  | [] => fun _ _ => M.pure []
  | f :: fs => fun cl ρ => M.bind (f cl ρ) fun w => M.bind (evalsR fs cl ρ) fun xs => M.pure (w :: xs)
def derefs : List W → M (List PyData)
  | [] => M.pure []
  | w :: ws => M.bind (deref w) fun x => M.bind (derefs ws) fun xs => M.pure (x :: xs)
def eBi (fs : List (Sm W)) (k : List PyData → Option PyData) : Sm W := fun cl ρ => M.bind (evalsR fs cl ρ) fun ws => M.bind (derefs ws) fun ds => M.bind (M.ofOpt (k ds)) fun c => M.pure (.d c)
/-- what has methods -/
inductive Kd where
  | str | list | dict
def kdOf : PyData → Option Kd
  | .str _ => some .str
  | .list _ => some .list
  | .dict _ => some .dict
  | _ => none
/-- o.m(..): the data of o and of the arguments -/
def eMeth (f : Sm W) (gs : List (Sm W)) (k : Kd → List PyData → Option PyData) : Sm W := fun cl ρ => M.bind (f cl ρ) fun w => M.bind (deref w) fun a0 => M.bind (M.ofOpt (kdOf a0)) fun kd =>
  M.bind (evalsR gs cl ρ) fun us => M.bind (derefs (w :: us)) fun ds => M.bind (M.ofOpt (k kd ds)) fun c => M.pure (.d c)
/-- .. that makes a new list -/
def nBi (fs : List (Sm W)) (k : List PyData → Option PyData) : Sm PyData := fun cl ρ => M.bind (evalsR fs cl ρ) fun ws => M.bind (derefs ws) fun ds => M.ofOpt (k ds)

/-! ## built-ins on data -/
def lenD : List PyData → Option PyData
  | [.str x] => if x.length ≤ sizeLine then some (.int x.length) else none
  | [.list xs] => some (.int xs.length)
  | [.tuple xs] => some (.int xs.length)
  | [.dict kvs] => some (.int kvs.length)
  | _ => none
def absD : List PyData → Option PyData
  | [.int i] => some (.int (if i < 0 then -i else i))
  | _ => none
def seqOf : PyData → Option (List PyData)
  | .list xs => some xs
  | .tuple xs => some xs
  | _ => none
def allAlike (xs : List PyData) : Bool := xs.all fun a => xs.all fun b => W.alike a b
def maxOf : List PyData → Option PyData
  | [] => none
  | x :: xs => if allAlike (x :: xs) && shallow (.list (x :: xs)) && !isNone x then some (W.maxD x xs) else none
def minOf : List PyData → Option PyData
  | [] => none
  | x :: xs => if allAlike (x :: xs) && shallow (.list (x :: xs)) && !isNone x then some (W.minD x xs) else none
def maxB : List PyData → Option PyData
  | [.int i, .int j] => some (.int (if j > i then j else i))
  | [x] => (seqOf x).bind maxOf
  | _ => none
def minB : List PyData → Option PyData
  | [.int i, .int j] => some (.int (if j < i then j else i))
  | [x] => (seqOf x).bind minOf
  | _ => none
def intsOf : List PyData → Option (List Int)
  | [] => some []
  | .int i :: xs => (intsOf xs).map (i :: ·)
  | _ => none
def boolsOf : List PyData → Option (List Bool)
  | [] => some []
  | .bool i :: xs => (boolsOf xs).map (i :: ·)
  | _ => none
def sumB : List PyData → Option PyData
  | [.list xs] => (intsOf xs).map fun ns => .int ns.sum
  | _ => none
def allB : List PyData → Option PyData
  | [.list xs] => (boolsOf xs).map fun bs => .bool (bs.all id)
  | _ => none
def anyB : List PyData → Option PyData
  | [.list xs] => (boolsOf xs).map fun bs => .bool (bs.any id)
  | _ => none
def intB : List PyData → Option PyData
  | [.int i] => some (.int i)
  | [.bool k] => some (.int (if k then 1 else 0))
  | [.str x] => if x.length ≤ 640 then (PySem.intText? x).map .int else none
  | _ => none
def strB : List PyData → Option PyData
  | [.int i] => if i.natAbs.log2 < 1920 then some (.str (toString i)) else none
  | _ => none
def signsOf (x : Str) : List PyData := x.cps.toList.map fun c => .str ⟨#[c]⟩
def tupleB : List PyData → Option PyData
  | [.str x] => if x.length ≤ sizeLine then some (.tuple (signsOf x)) else none
  | [.list xs] => some (.tuple xs)
  | [.tuple xs] => some (.tuple xs)
  | _ => none
def listB : List PyData → Option PyData
  | [.list xs] => some (.list xs)
  | [.tuple xs] => some (.list xs)
  | _ => none
/-- what sorted takes -/
def srtOk (xs : List PyData) : Bool := allAlike xs && shallow (.list xs) && (xs.all fun d => !isNone d) && (decide (xs.length < 2) || (xs.all fun d => match d with | .tuple (_ :: _) => true | _ => false) || (xs.all fun d => !isTup d))
def sortL (xs : List PyData) : List PyData := xs.mergeSort (W.dataLe false id)
def sortB : List PyData → Option PyData
  | [.list xs] => if srtOk xs then some (.list (sortL xs)) else none
  | [.tuple xs] => if srtOk xs then some (.list (sortL xs)) else none
  | [.dict kvs] => if srtOk (kvs.map (·.1)) then some (.list (sortL (kvs.map (·.1)))) else none
  | _ => none
def pairD (kv : PyData × PyData) : PyData := .tuple [kv.1, kv.2]
/-- sorted(d.items()) -/
def sortItB : List PyData → Option PyData
  | [.dict kvs] => if srtOk (kvs.map pairD) then some (.list (sortL (kvs.map pairD))) else none
  | _ => none
/-- list(range(..)) -/
def rangeB : List PyData → Option PyData
  | [.int j] => if -(2 ^ 62) ≤ j ∧ j ≤ 16777216 then some (.list ((List.range j.toNat).map fun i => .int (0 + (i : Nat)))) else none
  | [.int i, .int j] => if (-(2 ^ 62) ≤ i ∧ i < 2 ^ 62 ∧ -(2 ^ 62) ≤ j ∧ j < 2 ^ 62) ∧ j - i ≤ 16777216 then some (.list ((List.range (j - i).toNat).map fun t => .int (i + (t : Nat)))) else none
  | _ => none
def rowsOf : List PyData → Option (List (List Int))
  | [] => some []
  | .tuple x :: xs => match intsOf x with
    | some ns => (rowsOf xs).map (ns :: ·)
    | none => none
  | _ => none
/-- len(set(xs)), xs tuples of ints -/
def lenSetB : List PyData → Option PyData
  | [.list xs] => if xs.length < 64 then (rowsOf xs).map fun ks => .int ks.eraseDups.length else none
  | _ => none
/-- isinstance(x, T) -/
inductive Ty where
  | int | bool | str | tuple | list
def isaD : Ty → PyData → Bool
  | .int, .int _ => true
  | .int, .bool _ => true
  | .bool, .bool _ => true
  | .str, .str _ => true
  | .tuple, .tuple _ => true
  | .list, .list _ => true
  | _, _ => false
def isaB (T : Ty) : List PyData → Option PyData
  | [.dict _] => none
  | [x] => some (.bool (isaD T x))
  | _ => none
def placeOf (x : PyData) (xs : List PyData) : Option Nat := xs.findIdx? fun z => PyData.eqv z x
def indexB : List PyData → Option PyData
  | [.list xs, x] => if shallow x && !isDict x then (placeOf x xs).map fun (j : Nat) => PyData.int (j : Int) else none
  | _ => none
/-- .. of a tuple that stands at the top -/
def indexT : List PyData → Option PyData
  | [.tuple xs, x] => if shallow x && !isDict x then (placeOf x xs).map fun (j : Nat) => PyData.int (j : Int) else none
  | _ => none
def countB : List PyData → Option PyData
  | [.list xs, x] => if shallow x && !isDict x then some (.int ((xs.countP fun z => PyData.eqv z x : Nat))) else none
  | _ => none
def strsOf : List PyData → Option (List Str)
  | [] => some []
  | .str x :: xs => (strsOf xs).map (x :: ·)
  | _ => none
def joinB : List PyData → Option PyData
  | [.str sep, .list xs] => (strsOf xs).bind fun ss => if (ss.map (·.length)).sum + ss.length * sep.length ≤ sizeLine then some (.str (Txt.join sep ss)) else none
  | _ => none

/-! ## dicts -/
def getK (kvs : List (PyData × PyData)) (k : PyData) : Option PyData := (kvs.find? fun kv => PyData.eqv kv.1 k).map (·.2)
def putK (kvs : List (PyData × PyData)) (k v : PyData) : List (PyData × PyData) :=
  if kvs.any fun kv => PyData.eqv kv.1 k then kvs.map fun kv => if PyData.eqv kv.1 k then (kv.1, v) else kv else kvs ++ [(k, v)]
def pairOf : PyData → Option (PyData × PyData)
  | .tuple [k, v] => some (k, v)
  | _ => none
def putAll : List (PyData × PyData) → List PyData → Option (List (PyData × PyData))
  | kvs, [] => some kvs
  | kvs, x :: xs => match x with
    | .tuple [k, v] => if keyFits kvs k then putAll (putK kvs k v) xs else none
    | _ => none
/-- dict(pairs) -/
def dictB : List PyData → Option PyData
  | [.list xs] => (putAll [] xs).map .dict
  | _ => none
def getB : List PyData → Option PyData
  | [.dict kvs, k] => if keyFits kvs k then some ((getK kvs k).getD .none) else none
  | [.dict kvs, k, x] => if keyFits kvs k && keyed x then some ((getK kvs k).getD x) else none
  | _ => none

/-! ## what a loop walks -/
/-- the items, and the boxes that are walked -/
structure Src where
  items : List PyData
  bxs : List Nat
def itemsOf : PyData → Option (List PyData)
  | .list xs => some xs
  | .tuple xs => some xs
  | .str x => if x.length ≤ sizeLine then some (signsOf x) else none
  | _ => none
/-- a box that is walked may not change -/
def lockW : W → M (List Nat)
  | .bx n => fun st => match st[n]? with
    | some ⟨v, .live⟩ => .ok [n] (st.set n ⟨v, .lock⟩)
    | some _ => .ok [] st
    | none => .no
  | _ => M.pure []
def unlock : List Nat → Store → Store
  | [], st => st
  | n :: ns, st => unlock ns (match st[n]? with
    | some ⟨v, .lock⟩ => st.set n ⟨v, .live⟩
    | _ => st)
def unlockM (ns : List Nat) : M Unit := fun st => .ok () (unlock ns st)
abbrev Si := Calls → Env → M Src
def srcOf (w : W) (k : PyData → Option (List PyData)) : M Src := M.bind (deref w) fun a => M.bind (M.ofOpt (k a)) fun xs => M.bind (lockW w) fun ns => M.pure ⟨xs, ns⟩
def iOf (f : Sm W) : Si := fun cl ρ => M.bind (f cl ρ) fun w => srcOf w itemsOf
def intsFrom (lo : Int) (n : Nat) : List PyData := (List.range n).map fun i => .int (lo + (i : Nat))
def iRange1 (f : Sm W) : Si := fun cl ρ => M.bind (f cl ρ) fun w => match w with
  | .d (.int j) => if -(2 ^ 62) ≤ j ∧ j ≤ 16777216 then M.pure ⟨intsFrom 0 j.toNat, []⟩ else M.no
  | _ => M.no
def iRange2 (f g : Sm W) : Si := fun cl ρ => M.bind (f cl ρ) fun w => M.bind (g cl ρ) fun u => match w, u with
  | .d (.int i), .d (.int j) => if (-(2 ^ 62) ≤ i ∧ i < 2 ^ 62 ∧ -(2 ^ 62) ≤ j ∧ j < 2 ^ 62) ∧ j - i ≤ 16777216 then M.pure ⟨intsFrom i (j - i).toNat, []⟩ else M.no
  | _, _ => M.no
def iRange3 (f g h : Sm W) : Si := fun cl ρ => M.bind (f cl ρ) fun w => M.bind (g cl ρ) fun u => M.bind (h cl ρ) fun c => match w, u, c with
  | .d (.int i), .d (.int j), .d (.int (-1)) => if -(2 ^ 62) ≤ i ∧ i < 2 ^ 62 ∧ -(2 ^ 62) ≤ j ∧ j < 2 ^ 62 ∧ i - j ≤ 16777216 then M.pure ⟨(List.range (i - j).toNat).map fun t => .int (i - (t : Nat)), []⟩ else M.no
  | _, _, _ => M.no
def enumFrom (i : Nat) : List PyData → List PyData
  | [] => []
  | x :: xs => .tuple [.int i, x] :: enumFrom (i + 1) xs
def iEnum (f : Sm W) : Si := fun cl ρ => M.bind (f cl ρ) fun w => M.bind (srcOf w itemsOf) fun s => M.pure ⟨enumFrom 0 s.items, s.bxs⟩
def zip2 : List PyData → List PyData → List PyData
  | x :: xs, y :: ys => .tuple [x, y] :: zip2 xs ys
  | _, _ => []
def zip3 : List PyData → List PyData → List PyData → List PyData
  | x :: xs, y :: ys, z :: zs => .tuple [x, y, z] :: zip3 xs ys zs
  | _, _, _ => []
def iZip2 (f g : Sm W) : Si := fun cl ρ => M.bind (f cl ρ) fun w => M.bind (g cl ρ) fun u => M.bind (srcOf w itemsOf) fun s => M.bind (srcOf u itemsOf) fun t => M.pure ⟨zip2 s.items t.items, s.bxs ++ t.bxs⟩
def iZip3 (f g h : Sm W) : Si := fun cl ρ => M.bind (f cl ρ) fun w => M.bind (g cl ρ) fun u => M.bind (h cl ρ) fun v =>
  M.bind (srcOf w itemsOf) fun s => M.bind (srcOf u itemsOf) fun t => M.bind (srcOf v itemsOf) fun r => M.pure ⟨zip3 s.items t.items r.items, s.bxs ++ t.bxs ++ r.bxs⟩
def keysOf : PyData → Option (List PyData)
  | .dict kvs => some (kvs.map (·.1))
  | _ => none
def valuesOf : PyData → Option (List PyData)
  | .dict kvs => some (kvs.map (·.2))
  | _ => none
def pairsOf : PyData → Option (List PyData)
  | .dict kvs => some (kvs.map fun kv => .tuple [kv.1, kv.2])
  | _ => none
def iBy (k : PyData → Option (List PyData)) (f : Sm W) : Si := fun cl ρ => M.bind (f cl ρ) fun w => srcOf w k
/-- a source, unlocked behind -/
def nFrom (si : Si) (k : List PyData → Option PyData) : Sm PyData := fun cl ρ => M.bind (si cl ρ) fun s => M.bind (unlockM s.bxs) fun _ => M.ofOpt (k s.items)

/-! ## targets, comprehensions -/
inductive Tgt where
  | name (i : Nat)
  | tup (ts : List Tgt)
mutual
def asgD : Tgt → PyData → Env → Option Env
  | .name i, x, ρ => some (ρ.set i (some (.d x)))
  | .tup ts, .tuple xs, ρ => asgDs ts xs ρ
  | .tup _, _, _ => none
def asgDs : List Tgt → List PyData → Env → Option Env
  | [], [], ρ => some ρ
  | t :: ts, x :: xs, ρ => (asgD t x ρ).bind fun ρ' => asgDs ts xs ρ'
  | [], _ :: _, _ => none
  | _ :: _, [], _ => none
end
def wipeE (ρ : Env) : List Nat → Env
  | [] => ρ
  | v :: vs => (wipeE ρ vs).set v none
def compLoop (asg : PyData → Option Env) (cond : Env → M Bool) (elt : Env → M PyData) : List PyData → M (List PyData)
  | [] => M.pure []
  | x :: xs => M.bind (M.ofOpt (asg x)) fun ρ => M.bind (cond ρ) fun b => match b with
    | true => M.bind (elt ρ) fun y => M.bind (compLoop asg cond elt xs) fun ys => M.pure (y :: ys)
    | false => compLoop asg cond elt xs
/-- two clauses: the second source's items -/
def compLoop2 (asg : PyData → Option Env) (cond : Env → M Bool) (inner : Env → M (List PyData)) : List PyData → M (List PyData)
  | [] => M.pure []
  | x :: xs => M.bind (M.ofOpt (asg x)) fun ρ => M.bind (cond ρ) fun b => match b with
    | true => M.bind (inner ρ) fun ys => M.bind (compLoop2 asg cond inner xs) fun zs => M.pure (ys ++ zs)
    | false => compLoop2 asg cond inner xs
def cYes : Sm Bool := fun _ _ => M.pure true
def eltD (f : Sm W) : Sm PyData := fun cl ρ => M.bind (f cl ρ) toD
def nComp (own : List Nat) (si : Si) (t : Tgt) (cond : Sm Bool) (elt : Sm W) : Sm PyData := fun cl ρ => M.bind (si cl ρ) fun s =>
  M.bind (compLoop (fun x => asgD t x (wipeE ρ own)) (cond cl) (eltD elt cl) s.items) fun ys => M.bind (unlockM s.bxs) fun _ => M.pure (.list ys)
def nComp2 (own own1 : List Nat) (si : Si) (t : Tgt) (cond : Sm Bool) (si1 : Si) (t1 : Tgt) (cond1 : Sm Bool) (elt : Sm W) : Sm PyData := fun cl ρ => M.bind (si cl ρ) fun s =>
  M.bind (compLoop2 (fun x => asgD t x (wipeE ρ own)) (cond cl) (fun ρ1 => M.bind (si1 cl ρ1) fun s1 =>
    M.bind (compLoop (fun x => asgD t1 x (wipeE ρ1 own1)) (cond1 cl) (eltD elt cl) s1.items) fun ys => M.bind (unlockM s1.bxs) fun _ => M.pure ys) s.items) fun ys => M.bind (unlockM s.bxs) fun _ =>
      if ys.length ≤ sizeLine then M.pure (.list ys) else M.no

/-! ## statements -/
inductive Fl where
  | nx | brk | cont
  | ret (w : W)
abbrev Ss := Calls → Env → M (Fl × Env)
def sNext : Ss := fun _ ρ => M.pure (.nx, ρ)
def sBreak : Ss := fun _ ρ => M.pure (.brk, ρ)
def sCont : Ss := fun _ ρ => M.pure (.cont, ρ)
def sSeq (a b : Ss) : Ss := fun cl ρ => M.bind (a cl ρ) fun r => match r with
  | (.nx, ρ') => b cl ρ'
  | r => M.pure r
def sRet (f : Sm W) : Ss := fun cl ρ => M.bind (f cl ρ) fun w => M.pure (.ret w, ρ)
def sDrop (f : Sm W) : Ss := fun cl ρ => M.bind (f cl ρ) fun _ => M.pure (.nx, ρ)
def sSet (i : Nat) (f : Sm W) : Ss := fun cl ρ => M.bind (f cl ρ) fun w => M.pure (.nx, ρ.set i (some w))
/-- x, y, .. = e, f, ..: all told, then stored -/
def setAll : List Nat → List W → Env → Env
  | i :: is, w :: ws, ρ => setAll is ws (ρ.set i (some w))
  | _, _, ρ => ρ
def sPar (is : List Nat) (fs : List (Sm W)) : Ss := fun cl ρ => M.bind (evalsR fs cl ρ) fun ws => M.pure (.nx, setAll is ws ρ)
/-- targets = e -/
def asDat : W → M PyData
  | .d a => M.pure a
  | _ => M.no
def sAsg (t : Tgt) (f : Sm W) : Ss := fun cl ρ => M.bind (f cl ρ) fun w => M.bind (asDat w) fun a => M.bind (M.ofOpt (asgD t a ρ)) fun ρ' => M.pure (.nx, ρ')
def sIf (t : Sm Bool) (a b : Ss) : Ss := fun cl ρ => M.bind (t cl ρ) fun c => match c with
  | true => a cl ρ
  | false => b cl ρ
def forLoop (asg : PyData → Env → Option Env) (body : Env → M (Fl × Env)) : List PyData → Env → M (Fl × Env)
  | [], ρ => M.pure (.nx, ρ)
  | x :: xs, ρ => M.bind (M.ofOpt (asg x ρ)) fun ρ1 => M.bind (body ρ1) fun r => match r with
    | (.nx, ρ2) => forLoop asg body xs ρ2
    | (.cont, ρ2) => forLoop asg body xs ρ2
    | (.brk, ρ2) => M.pure (.nx, ρ2)
    | (.ret w, ρ2) => M.pure (.ret w, ρ2)
def sFor (t : Tgt) (si : Si) (body : Ss) : Ss := fun cl ρ => M.bind (si cl ρ) fun s => M.bind (forLoop (asgD t) (body cl) s.items ρ) fun r => M.bind (unlockM s.bxs) fun _ => M.pure r
def whileLoop (t : Env → M Bool) (body : Env → M (Fl × Env)) : Nat → Env → M (Fl × Env)
  | 0, _ => M.no
  | n + 1, ρ => M.bind (t ρ) fun c => match c with
    | false => M.pure (.nx, ρ)
    | true => M.bind (body ρ) fun r => match r with
      | (.nx, ρ2) => whileLoop t body n ρ2
      | (.cont, ρ2) => whileLoop t body n ρ2
      | (.brk, ρ2) => M.pure (.nx, ρ2)
      | (.ret w, ρ2) => M.pure (.ret w, ρ2)
def wFuel : Nat := 1000000000
def sWhile (t : Sm Bool) (body : Ss) : Ss := fun cl ρ => whileLoop (t cl) (body cl) wFuel ρ
/-- changes of a box -/
def eMut (f : Sm W) (gs : List (Sm W)) (k : Kd → PyData → List PyData → Option (PyData × PyData)) : Sm W := fun cl ρ => M.bind (f cl ρ) fun w => M.bind (deref w) fun a0 => M.bind (M.ofOpt (kdOf a0)) fun kd =>
  M.bind (evalsD gs cl ρ) fun xs => M.bind (liveAt w) fun p => M.bind (M.ofOpt (k kd p.2 xs)) fun r => M.bind (setBox p.1 r.1) fun _ => M.pure (.d r.2)
def appendK : Kd → PyData → List PyData → Option (PyData × PyData)
  | .list, .list xs, [x] => if xs.length < sizeLine then some (.list (xs ++ [x]), .none) else none
  | _, _, _ => none
def extendK : Kd → PyData → List PyData → Option (PyData × PyData)
  | .list, .list xs, [.list ys] => if xs.length + ys.length ≤ sizeLine then some (.list (xs ++ ys), .none) else none
  | _, _, _ => none
def popK : Kd → PyData → List PyData → Option (PyData × PyData)
  | .list, .list xs, [] => (xs[xs.length - 1]?).map fun y => (.list xs.dropLast, y)
  | _, _, _ => none
def popAtK : Kd → PyData → List PyData → Option (PyData × PyData)
  | .list, .list xs, [.int i] => if -(2 ^ 63) ≤ i ∧ i < 2 ^ 63 then (seqIndex? i xs.length).bind fun k => (xs[k]?).map fun y => (.list (xs.eraseIdx k), y) else none
  | .dict, .dict kvs, [k] => if keyFits kvs k then (getK kvs k).map fun v => (.dict (kvs.filter fun kv => !PyData.eqv kv.1 k), v) else none
  | _, _, _ => none
def updateK : Kd → PyData → List PyData → Option (PyData × PyData)
  | .dict, .dict kvs, [.list xs] => (putAll kvs xs).map fun r => (.dict r, .none)
  | _, _, _ => none
def indexM : Kd → List PyData → Option PyData
  | .list, ds => indexB ds
  | _, _ => none
def countM : Kd → List PyData → Option PyData
  | .list, ds => countB ds
  | _, _ => none
def joinM : Kd → List PyData → Option PyData
  | .str, ds => joinB ds
  | _, _ => none
def getM : Kd → List PyData → Option PyData
  | .dict, ds => getB ds
  | _, _ => none
/-- o[i] = e -/
def putD (a i v : PyData) : Option PyData :=
  match a, i with
  | .list xs, .int k => (L2.ixN xs.length k).map fun j => .list (xs.set j v)
  | .dict kvs, k => if keyFits kvs k && decide (kvs.length < sizeLine) then some (.dict (putK kvs k v)) else none
  | _, _ => none
def sPut (f g h : Sm W) : Ss := fun cl ρ => M.bind (h cl ρ) fun w => M.bind (toD w) fun v => M.bind (f cl ρ) fun o => M.bind (eDat g cl ρ) fun i =>
  M.bind (liveAt o) fun p => M.bind (M.ofOpt (putD p.2 i v)) fun a => M.bind (setBox p.1 a) fun _ => M.pure (.nx, ρ)
def sNo : Ss := fun _ _ => M.no

/-! ## defs -/
structure FnD where
  np : Nat
  ns : Nat
  boxr : Bool
  body : Ss
def finish (boxr : Bool) (n : Nat) (f : Fl) (st : Store) : Out W :=
  match f with
  | .nx => .ok (.d .none) (st.take n)
  | .ret (.fn i) => .ok (.fn i) (st.take n)
  | .ret w => match boxr with
    | true => .ok w st
    | false => match toD w st with
      | .ok x st' => .ok (.d x) (st'.take n)
      | _ => .no
  | _ => .no
def runFn (fd : FnD) (cl : Calls) (ws : List W) : M W := fun st =>
  if ws.length = fd.np then
    match fd.body cl (ws.map some ++ List.replicate (fd.ns - ws.length) none) st with
    | .ok (f, _) st' => finish fd.boxr st.length f st'
    | .err x st' => .err x (st'.take st.length)
    | .no => .no
  else .no
def callD (tbl : List FnD) : Nat → Calls
  | 0 => fun _ _ => M.no
  | k + 1 => fun i ws => match tbl[i]? with
    | some fd => runFn fd (callD tbl k) ws
    | none => M.no
end Ev

set_option Elab.async false
set_option linter.all false
set_option maxRecDepth 100000
/-! The meaning of a def's text: expressions, tests, new lists, sources, statements. -/
namespace Ev
open PySem PySem.Spec PyProof.Rows

inductive Bi where
  | len | abs | max | min | sum | all | any | sorted
  | tint | tbool | tstr | ttuple | tlist | tdict
  | isinstance | range | enumerate | zip | tset
  deriving DecidableEq
inductive Gk where
  | fn (i : Nat)
  | val (d : PyData)
  | bi (b : Bi)
structure EC where
  N : List Str
  sc : Scope
  /-- names whose cells this block has made -/
  fn : Str → Bool
  gl : List (Str × Gk)
  /-- names that hold boxes -/
  bx : List Str
  /-- return [..] makes a box -/
  rb : Bool
def dbg (x : Str) : Bool := x == ("__debug__" : Str) || x == ("__classdict__" : Str)
def vis (C : EC) (x : Str) : Option Nat :=
  if dbg x then none else
  match C.sc.names.lookup x with
  | some .local => (C.N.idxOf? x)
  | some .cell => (C.N.idxOf? x)
  | some .free => (C.N.idxOf? x)
  | _ => none
def glob (C : EC) (x : Str) : Option Gk :=
  match C.sc.names.lookup x with
  | some .globalImplicit => if dbg x then none else C.gl.lookup x
  | _ => none
/-- a name that is stored here -/
def stor (C : EC) (x : Str) : Option Nat :=
  match C.sc.names.lookup x with
  | some .local => C.N.idxOf? x
  | some .cell => if C.fn x then C.N.idxOf? x else none
  | _ => none
def biOf (C : EC) (x : Str) : Option Bi :=
  match glob C x with
  | some (.bi b) => some b
  | _ => none
def tyOf : Bi → Option Ty
  | .tint => some .int
  | .tbool => some .bool
  | .tstr => some .str
  | .ttuple => some .tuple
  | .tlist => some .list
  | _ => none
def mapM' {α β : Type} (f : α → Option β) : List α → Option (List β)
  | [] => some []
  | x :: xs => match f x with
    | some y => match mapM' f xs with
      | some ys => some (y :: ys)
      | none => none
    | none => none
/-- the block of a comprehension: its own names with their places -/
def ownOf (N : List Str) : List (Str × NameKind) → Option (List (Str × Nat))
  | [] => some []
  | (x, k) :: r => match k with
    | .local => match N.idxOf? x with
      | some i => (ownOf N r).map ((x, i) :: ·)
      | none => ownOf N r
    | .cell => match N.idxOf? x with
      | some i => (ownOf N r).map ((x, i) :: ·)
      | none => ownOf N r
    | _ => ownOf N r
def blkCtx (C : EC) (scope : Scope) (own : List (Str × Nat)) : EC := { C with sc := L2.relS scope C.sc, fn := (fun x => scope.names.lookup x == some .cell), bx := [], rb := false }
def catB : List PyData → Option PyData
  | [.list x, .list y] => binD .Add (.list x) (.list y)
  | _ => none
mutual
def tgtOf (C : EC) : Nat → Expr → Option Tgt
  | 0, _ => none
  | n + 1, e => match e with
    | .Name x _ => (stor C x).map .name
    | .Tuple es _ _ => (tgtsOf C n es).map .tup
    | _ => none
def tgtsOf (C : EC) : Nat → List Expr → Option (List Tgt)
  | 0, _ => none
  | n + 1, es => match es with
    | [] => some []
    | e :: es => match tgtOf C n e with
      | some t => (tgtsOf C n es).map (t :: ·)
      | none => none
end
mutual
def slotsT : Tgt → List Nat
  | .name i => [i]
  | .tup ts => slotsTs ts
def slotsTs : List Tgt → List Nat
  | [] => []
  | t :: ts => slotsT t ++ slotsTs ts
end
def constD : Const → Option PyData
  | .none => some .none
  | .bool b => some (.bool b)
  | .int i => some (.int i)
  | .str x => some (.str x)
  | _ => none
def baseOk : Expr → Bool
  | .Call (.Name _ _) [] [] _ => false
  | _ => true
def isStar : Expr → Bool
  | .Starred _ _ => true
  | _ => false
def isSlice : Expr → Bool
  | .Slice .. => true
  | _ => false
def isSet : Expr → Bool
  | .Set .. => true
  | _ => false
def isCompE : Expr → Bool
  | .ListComp .. => true
  | .SetComp .. => true
  | .DictComp .. => true
  | _ => false
inductive SlK where
  | plain
  | cut (lo hi : Option Expr)
  | back
  | bad
def slK : Expr → SlK
  | .Slice lo hi none _ => .cut lo hi
  | .Slice none none (some (.UnaryOp .USub (.Constant (.int 1) _ _) _)) _ => .back
  | .Slice _ _ _ _ => .bad
  | _ => .plain
def biK : Bi → Option (List PyData → Option PyData)
  | .len => some lenD
  | .abs => some absD
  | .max => some maxB
  | .min => some minB
  | .sum => some sumB
  | .all => some allB
  | .any => some anyB
  | .tint => some intB
  | .tstr => some strB
  | .ttuple => some tupleB
  | _ => none
def metK (m : Str) : Option (Kd → List PyData → Option PyData) :=
  if m = "index" then some indexM else if m = "join" then some joinM else if m = "get" then some getM else none
def mutK (m : Str) : Option (Kd → PyData → List PyData → Option (PyData × PyData)) :=
  if m = "append" then some appendK else if m = "extend" then some extendK else if m = "pop" then some popAtK else none
/-- a plain call's meaning behind its arguments -/
def callK (C : EC) (x : Str) (fs : List (Sm W)) : Option (Sm W) := match vis C x with
  | some j => match fs with
    | [] => none
    | _ => some (eCallV j fs)
  | none => match glob C x with
    | some (.fn i) => some (eCall i fs)
    | some (.bi b) => match biK b with
      | some k => some (eBi fs k)
      | none => none
    | _ => none
/-- a tuple of the top, its index -/
def topTup (C : EC) : Expr → Option (List PyData)
  | .Name x _ => match vis C x, glob C x with
    | none, some (.val (.tuple ds)) => some ds
    | _, _ => none
  | _ => none
def topIdx (C : EC) (o : Expr) (m : Str) (args : List Expr) : Option (List PyData × Expr) := match topTup C o, args with
  | some ds, [a] => if m = "index" ∧ isStar a = false then some (ds, a) else none
  | _, _ => none
def methK (m : Str) (f : Sm W) (gs : List (Sm W)) : Option (Sm W) := match metK m with
  | some k => match gs with
    | [] => none
    | _ => some (eMeth f gs k)
  | none => match mutK m with
    | some k => match gs with
      | [] => if m = "pop" then some (eMut f [] popK) else none
      | _ => some (eMut f gs k)
    | none => none
/-- isinstance's second argument -/
def tyArg (C : EC) (x : Str) (args : List Expr) : Option (Expr × Ty) := match vis C x, glob C x, args with
  | none, some (.bi .isinstance), [a, .Name y _] => match vis C y with
    | none => match (biOf C y).bind tyOf with
      | some T => some (a, T)
      | none => none
    | some _ => none
  | _, _, _ => none
/-- what makes a new list or dict -/
inductive MkK where
  | one (a : Expr) (k : List PyData → Option PyData)
  | items (o : Expr)
  | rg1 (a : Expr)
  | rg2 (a b : Expr)
  | no
/-- of one value -/
def mkOne : Bi → Expr → MkK
  | .tlist, a => .one a listB
  | .sorted, a => .one a sortB
  | .tdict, a => .one a dictB
  | _, _ => .no
def mkK (C : EC) (x : Str) (args : List Expr) : MkK := match vis C x, glob C x, args with
  | none, some (.bi b), [a] => match b, a with
    | .sorted, .Call (.Attribute o m ap) [] [] cp => if m = "items" ∧ baseOk o = true ∧ (ap.endLine == cp.line) = true then .items o else .no
    | .tlist, .Call (.Name y _) as [] _ => match vis C y, glob C y, as with
      | none, some (.bi .range), [c] => if isStar c then .no else .rg1 c
      | none, some (.bi .range), [c, d] => if isStar c || isStar d then .no else .rg2 c d
      | _, _, _ => .one a listB
    | b, a => mkOne b a
  | _, _, _ => .no
/-- len(set(a)) -/
def lenSet (C : EC) (x : Str) (args : List Expr) : Option Expr := match vis C x, glob C x, args with
  | none, some (.bi .len), [.Call (.Name y _) [a] [] _] => match vis C y, glob C y with
    | none, some (.bi .tset) => if isStar a then none else some a
    | _, _ => none
  | _, _, _ => none
def isTupE : Expr → Bool
  | .Tuple .. => true
  | _ => false
inductive ItK where
  | seq
  | range1 (a : Expr)
  | range2 (a b : Expr)
  | zip2 (a b : Expr)
def itK (C : EC) (tg : Expr) : Expr → ItK
  | .Call (.Name x _) args [] _ => match vis C x, glob C x, args with
    | none, some (.bi .range), [a] => if isStar a then .seq else .range1 a
    | none, some (.bi .range), [a, b] => if isStar a || isStar b then .seq else .range2 a b
    | none, some (.bi .zip), [a, b] => if isStar a || isStar b || !isTupE tg then .seq else .zip2 a b
    | _, _, _ => .seq
  | _ => .seq
mutual
/-- an expression -/
def semE (C : EC) : Nat → Expr → Option (Sm W)
  | 0, _ => none
  | n + 1, e => match e with
    | .Constant c _ _ => (constD c).map eD
    | .Name x _ => match vis C x with
      | some i => some (eVar i)
      | none => match glob C x with
        | some (.fn i) => some (eFn i)
        | some (.val d) => some (eD d)
        | _ => none
    | .Tuple es _ _ => match semEs C n es with
      | some fs => if es.length ≤ 1000 then some (eTup fs) else none
      | none => none
    | .List es p => (semN C n (.List es p)).map eNew
    | .BinOp a op b _ => match semE C n a, semE C n b with
      | some f, some g => some (eBin op f g)
      | _, _ => none
    | .UnaryOp op a _ => match op with
      | .USub => (semE C n a).map fun f => e1 f negD
      | .Not => (semE C n a).map eNot
      | _ => none
    | .BoolOp op es _ => semB C n op es
    | .Compare a ops bs _ => match ops, bs with
      | [op], [b] => if isSet b then none else match semE C n a, semE C n b with
        | some f, some g => some (eCmp op f g)
        | _, _ => none
      | [op, op'], [b, c] => if isSet c then none else match semE C n a, semE C n b, semE C n c with
        | some f, some g, some h => some (eChain op op' f g h)
        | _, _, _ => none
      | _, _ => none
    | .IfExp t a b _ => match semT C n t, semE C n a, semE C n b with
      | some u, some f, some g => some (eIf u f g)
      | _, _, _ => none
    | .Subscript a b _ => match slK b with
      | .plain => match semE C n a, semE C n b with
        | some f, some g => some (eItem f g)
        | _, _ => none
      | .cut lo hi => match semE C n a, semO C n lo, semO C n hi with
        | some f, some l, some u => some (eSlice f l u)
        | _, _, _ => none
      | .back => (semE C n a).map fun f => e1 f backD
      | .bad => none
    | .ListComp elt gs sc p => (semN C n (.ListComp elt gs sc p)).map eNew
    | .Call fn args kws pos => match kws with
      | [] => semK C n fn args pos
      | _ => none
    | _ => none
/-- a call without keywords -/
def semK (C : EC) : Nat → Expr → List Expr → Pos → Option (Sm W)
  | 0, _, _, _ => none
  | n + 1, fn, args, pos => match fn with
    | .Name x p => match tyArg C x args with
      | some (a, T) => (semE C n a).map fun f => eBi [f] (isaB T)
      | none => match lenSet C x args with
        | some a => (semE C n a).map fun f => eBi [f] lenSetB
        | none => match semN C n (.Call (.Name x p) args [] pos) with
          | some m => some (eNew m)
          | none => (semEs C n args).bind (callK C x)
    | .Attribute o m ap => if !baseOk o || !(ap.endLine == pos.line) || !decide (args.length < 20) then none else
      match topIdx C o m args with
      | some (ds, a) => (semE C n a).map fun f => eBi [eD (.tuple ds), f] indexT
      | none => match semE C n o, semEs C n args with
        | some f, some gs => methK m f gs
        | _, _ => none
    | _ => none
def semEs (C : EC) : Nat → List Expr → Option (List (Sm W))
  | 0, _ => none
  | n + 1, es => match es with
    | [] => some []
    | e :: es => if isStar e then none else match semE C n e, semEs C n es with
      | some f, some fs => some (f :: fs)
      | _, _ => none
/-- and, or as values -/
def semB (C : EC) : Nat → BoolOp → List Expr → Option (Sm W)
  | 0, _, _ => none
  | n + 1, op, es => match es with
    | [] => none
    | e :: es => match es with
      | [] => semE C n e
      | e' :: es => match semE C n e, semB C n op (e' :: es) with
        | some f, some g => match op with
          | .And => some (eAnd f g)
          | .Or => some (eOr f g)
        | _, _ => none
def semO (C : EC) : Nat → Option Expr → Option (Option (Sm W))
  | 0, _ => none
  | n + 1, o => match o with
    | none => some none
    | some e => (semE C n e).map some
/-- a test -/
def semT (C : EC) : Nat → Expr → Option (Sm Bool)
  | 0, _ => none
  | n + 1, e => match e with
    | .UnaryOp op a p => match op with
      | .Not => (semT C n a).map tNot
      | _ => (semE C n (.UnaryOp op a p)).map tOf
    | .BoolOp op es _ => semTs C n op es
    | .IfExp t a b _ => none
    | .Compare a ops bs p => match ops, bs with
      | [op], [b] => if isSet b then none else match semE C n a, semE C n b with
        | some f, some g => some (tOf (eCmp op f g))
        | _, _ => none
      | [op, op'], [b, c] => if isSet c then none else match semE C n a, semE C n b, semE C n c with
        | some f, some g, some h => some (tOf (eChain op op' f g h))
        | _, _, _ => none
      | _, _ => none
    | e => (semE C n e).map tOf
def semTs (C : EC) : Nat → BoolOp → List Expr → Option (Sm Bool)
  | 0, _, _ => none
  | n + 1, op, es => match es with
    | [] => none
    | e :: es => match es with
      | [] => semT C n e
      | e' :: es => match semT C n e, semTs C n op (e' :: es) with
        | some f, some g => match op with
          | .And => some (tAnd f g)
          | .Or => some (tOr f g)
        | _, _ => none
/-- a new list (or dict) -/
def semN (C : EC) : Nat → Expr → Option (Sm PyData)
  | 0, _ => none
  | n + 1, e => match e with
    | .List es _ => match semEs C n es with
      | some fs => if es.length ≤ 1000 then some (nList fs) else none
      | none => none
    | .Dict ks vs _ => match ks, vs with
      | [], [] => some fun _ _ => M.pure (.dict [])
      | _, _ => none
    | .BinOp a op b _ => match op with
      | .Add => match semE C n a, semE C n b with
        | some f, some g => some (nBi [f, g] catB)
        | _, _ => none
      | _ => none
    | .Call fn args kws _ => match fn, kws with
      | .Name x _, [] => match mkK C x args with
        | .one a k => (semE C n a).map fun f => nBi [f] k
        | .items o => (semE C n o).map fun f => nBi [f] sortItB
        | .rg1 a => (semE C n a).map fun f => nBi [f] rangeB
        | .rg2 a b => match semE C n a, semE C n b with
          | some f, some h => some (nBi [f, h] rangeB)
          | _, _ => none
        | .no => none
      | _, _ => none
    | .ListComp elt gs scope _ => match gs with
      | [⟨tg, it, ifs, 0⟩] => match ownOf C.N scope.names with
        | none => none
        | some own => if L2.blkC C.N C.sc scope own && !isSet it then
            match semI C n tg it, tgtOf (blkCtx C scope own) n tg, semC (blkCtx C scope own) n ifs, semE (blkCtx C scope own) n elt with
            | some si, some t, some c, some f => if (slotsT t).all (own.map (·.2)).contains then some (nComp (own.map (·.2)) si t c f) else none
            | _, _, _, _ => none
          else none
      | _ => none
    | _ => none
/-- the tests of a clause -/
def semC (C : EC) : Nat → List Expr → Option (Sm Bool)
  | 0, _ => none
  | n + 1, es => match es with
    | [] => some cYes
    | [e] => semT C n e
    | _ => none
/-- what a loop walks, with the target tg -/
def semI (C : EC) : Nat → Expr → Expr → Option Si
  | 0, _, _ => none
  | n + 1, tg, e => match itK C tg e with
    | .range1 a => (semE C n a).map iRange1
    | .range2 a b => match semE C n a, semE C n b with
      | some f, some g => some (iRange2 f g)
      | _, _ => none
    | .zip2 a b => match semE C n a, semE C n b with
      | some f, some g => some (iZip2 f g)
      | _, _ => none
    | .seq => (semE C n e).map iOf
end

/-! ## statements -/
/-- targets that are names, distinct -/
def nameSlots (C : EC) : List Expr → Option (List Nat)
  | [] => some []
  | e :: ts => match e with
    | .Name x _ => match stor C x, nameSlots C ts with
      | some i, some is => some (i :: is)
      | _, _ => none
    | _ => none
def swNames (sc : Scope) (ts : List Expr) : List Str := ts.filterMap fun
    | .Name id pos => if sc.names.lookup id == some .local && pos.line == (ts.head?.map (·.pos.line)).getD 0 then some id else none
    | _ => none
/-- the names that are stored from the right -/
def swP (sc : Scope) (ts vs : List Expr) : Option (Option (List Str)) :=
  if (!(ts.length == 2 || ts.length == 3) || vs.length != ts.length) = true then some none else
  if vs.any (fun | .Starred .. => true | _ => false) = true then some none else
  if ((swNames sc ts).length != ts.length || (swNames sc ts).eraseDups.length != (swNames sc ts).length) = true then some none else
  if vs.all (foldedForSure 8) = true then some none else
  if vs.all (constantsAlone 8) = true then none else some (some (swNames sc ts))
/-- what a name is bound to: a box, if the name holds boxes -/
def semV (C : EC) (n : Nat) (t : Expr) (e : Expr) : Option (Sm W) := match t with
  | .Name x _ => if C.bx.contains x then (semN C n e).map eBox else semE C n e
  | _ => none
def semVs (C : EC) (n : Nat) : List Expr → List Expr → Option (List (Sm W))
  | [], es => match es with
    | [] => some []
    | _ => none
  | t :: ts, es => match es with
    | [] => none
    | e :: es => if isStar e then none else match semV C n t e, semVs C n ts es with
      | some f, some fs => some (f :: fs)
      | _, _ => none
def isStrE : Expr → Bool
  | .Constant (.str _) _ _ => true
  | _ => false
mutual
def semS (C : EC) : Nat → Stmt → Option Ss
  | 0, _ => none
  | n + 1, s => match s with
    | .Pass _ => some sNext
    | .Break _ => some sBreak
    | .Continue _ => some sCont
    | .Raise .. => some sNo
    | .Return o _ => match o with
      | none => some (sRet (eD .none))
      | some e => match C.rb, semN C n e with
        | true, some f => some (sRet (eBox f))
        | _, _ => (semE C n e).map sRet
    | .Expr e _ => if isStrE e then some sNext else if isCompE e then none else (semE C n e).map sDrop
    | .If t a b _ => match semT C n t, semSs C n a, semSs C n b with
      | some u, some f, some g => some (sIf u f g)
      | _, _, _ => none
    | .While t a b _ => match b with
      | [] => match semT C n t, semSs C n a with
        | some u, some f => some (sWhile u f)
        | _, _ => none
      | _ => none
    | .For tg it a b _ => match b with
      | [] => if isSet it then none else match tgtOf C n tg, semI C n tg it, semSs C n a with
        | some t, some si, some f => some (sFor t si f)
        | _, _, _ => none
      | _ => none
    | .Assign ts e _ => match ts with
      | [t] => match t with
        | .Name x p => match stor C x, semV C n (.Name x p) e with
          | some i, some f => some (sSet i f)
          | _, _ => none
        | .Subscript o i _ => if isCompE e || isSlice e || isSlice i then none else match semE C n o, semE C n i, semE C n e with
          | some f, some g, some h => some (sPut f g h)
          | _, _, _ => none
        | .Tuple ts k p => match e with
          | .Tuple es _ _ => match nameSlots C ts, semVs C n ts es, swP C.sc ts es with
            | some is, some fs, some _ => if is.length = fs.length ∧ fs.length ≤ 1000 ∧ is.Nodup then some (sPar is fs) else none
            | _, _, _ => none
          | e => match tgtOf C n (.Tuple ts k p), semE C n e with
            | some t, some f => if isCompE e then none else some (sAsg t f)
            | _, _ => none
        | _ => none
      | _ => none
    | _ => none
def semSs (C : EC) : Nat → List Stmt → Option Ss
  | 0, _ => none
  | n + 1, ss => match ss with
    | [] => some sNext
    | s :: ss => match semS C n s, semSs C n ss with
      | some f, some g => some (sSeq f g)
      | _, _ => none
end
end Ev

set_option Elab.async false
set_option linter.all false
set_option maxRecDepth 100000
/-! Big steps: what a reading answers, from what its parts answer. -/
namespace Ev
open PySem PySem.Spec PyProof.Rows
section
variable {cl : Calls} {ρ ρ1 ρ2 : Env} {st st1 st2 st3 st4 : Store}
theorem call_at {tbl : List FnD} {i k : Nat} {fd : FnD} (h : tbl[i]? = some fd) : callD tbl (k + 1) i = runFn fd (callD tbl k) := by
  funext ws
  simp only [callD, h]
theorem bind_run {α β : Type} {f : M α} {k : α → M β} {a : α} {r : Out β} (h : f st = .ok a st1) (h2 : k a st1 = r) : M.bind f k st = r := by
  unfold M.bind
  rw [h]
  exact h2
/-! ### statements -/
theorem seq_nx {a b : Ss} {r : Out (Fl × Env)} (h1 : a cl ρ st = .ok (.nx, ρ1) st1) (h2 : b cl ρ1 st1 = r) : sSeq a b cl ρ st = r := bind_run h1 h2
theorem seq_ret {a b : Ss} {w : W} (h1 : a cl ρ st = .ok (.ret w, ρ1) st1) : sSeq a b cl ρ st = .ok (.ret w, ρ1) st1 := bind_run h1 rfl
theorem seq_brk {a b : Ss} (h1 : a cl ρ st = .ok (.brk, ρ1) st1) : sSeq a b cl ρ st = .ok (.brk, ρ1) st1 := bind_run h1 rfl
theorem set_run {i : Nat} {f : Sm W} {w : W} (h : f cl ρ st = .ok w st1) : sSet i f cl ρ st = .ok (.nx, ρ.set i (some w)) st1 := bind_run h rfl
theorem ret_run {f : Sm W} {w : W} (h : f cl ρ st = .ok w st1) : sRet f cl ρ st = .ok (.ret w, ρ) st1 := bind_run h rfl
theorem drop_run {f : Sm W} {w : W} (h : f cl ρ st = .ok w st1) : sDrop f cl ρ st = .ok (.nx, ρ) st1 := bind_run h rfl
theorem if_t {t : Sm Bool} {a b : Ss} {r : Out (Fl × Env)} (h : t cl ρ st = .ok true st1) (h2 : a cl ρ st1 = r) : sIf t a b cl ρ st = r := bind_run h h2
theorem if_f {t : Sm Bool} {a b : Ss} {r : Out (Fl × Env)} (h : t cl ρ st = .ok false st1) (h2 : b cl ρ st1 = r) : sIf t a b cl ρ st = r := bind_run h h2
theorem for_run {t : Tgt} {si : Si} {body : Ss} {s : Src} {r : Fl × Env} (h : si cl ρ st = .ok s st1) (h2 : forLoop (asgD t) (body cl) s.items ρ st1 = .ok r st2) : sFor t si body cl ρ st = .ok r (unlock s.bxs st2) :=
  bind_run h (bind_run h2 rfl)
theorem asg_run {t : Tgt} {f : Sm W} {a : PyData} (h : f cl ρ st = .ok (.d a) st1) (h2 : asgD t a ρ = some ρ1) : sAsg t f cl ρ st = .ok (.nx, ρ1) st1 := bind_run h (by
  show M.bind (M.ofOpt (asgD t a ρ)) _ st1 = _
  rw [h2]
  rfl)
theorem par2_run {i j : Nat} {f g : Sm W} {a b : W} (h : f cl ρ st = .ok a st1) (h2 : g cl ρ st1 = .ok b st2) : sPar [i, j] [f, g] cl ρ st = .ok (.nx, (ρ.set i (some a)).set j (some b)) st2 :=
  bind_run (bind_run h (bind_run (bind_run h2 (bind_run rfl rfl)) rfl)) rfl
theorem par3_run {i j l : Nat} {f g h' : Sm W} {a b c : W} (h : f cl ρ st = .ok a st1) (h2 : g cl ρ st1 = .ok b st2) (h3 : h' cl ρ st2 = .ok c st3) : sPar [i, j, l] [f, g, h'] cl ρ st = .ok (.nx, ((ρ.set i (some a)).set j (some b)).set l (some c)) st3 :=
  bind_run (bind_run h (bind_run (bind_run h2 (bind_run (bind_run h3 (bind_run rfl rfl)) rfl)) rfl)) rfl
/-! ### loops -/
theorem for_nx {asg : PyData → Env → Option Env} {body : Env → M (Fl × Env)} {x : PyData} {xs : List PyData} {r : Out (Fl × Env)} (h : asg x ρ = some ρ1) (h2 : body ρ1 st = .ok (.nx, ρ2) st1) (h3 : forLoop asg body xs ρ2 st1 = r) : forLoop asg body (x :: xs) ρ st = r := by
  show M.bind (M.ofOpt (asg x ρ)) _ st = _
  rw [h]
  exact bind_run rfl (bind_run h2 h3)
theorem for_ret {asg : PyData → Env → Option Env} {body : Env → M (Fl × Env)} {x : PyData} {xs : List PyData} {w : W} (h : asg x ρ = some ρ1) (h2 : body ρ1 st = .ok (.ret w, ρ2) st1) : forLoop asg body (x :: xs) ρ st = .ok (.ret w, ρ2) st1 := by
  show M.bind (M.ofOpt (asg x ρ)) _ st = _
  rw [h]
  exact bind_run rfl (bind_run h2 rfl)
theorem while_t {t : Env → M Bool} {body : Env → M (Fl × Env)} {n : Nat} {r : Out (Fl × Env)} (h : t ρ st = .ok true st1) (h2 : body ρ st1 = .ok (.nx, ρ1) st2) (h3 : whileLoop t body n ρ1 st2 = r) : whileLoop t body (n + 1) ρ st = r :=
  bind_run h (bind_run h2 h3)
theorem while_f {t : Env → M Bool} {body : Env → M (Fl × Env)} {n : Nat} (h : t ρ st = .ok false st1) : whileLoop t body (n + 1) ρ st = .ok (.nx, ρ) st1 := bind_run h rfl
/-! ### comprehensions -/
theorem comp_nil {asg : PyData → Option Env} {c : Env → M Bool} {e : Env → M PyData} : compLoop asg c e [] st = .ok [] st := rfl
theorem comp_t {asg : PyData → Option Env} {c : Env → M Bool} {e : Env → M PyData} {x y : PyData} {xs ys : List PyData} (h : asg x = some ρ) (h1 : c ρ st = .ok true st1) (h2 : e ρ st1 = .ok y st2) (h3 : compLoop asg c e xs st2 = .ok ys st3) : compLoop asg c e (x :: xs) st = .ok (y :: ys) st3 := by
  show M.bind (M.ofOpt (asg x)) _ st = _
  rw [h]
  exact bind_run rfl (bind_run h1 (bind_run h2 (bind_run h3 rfl)))
theorem comp_f {asg : PyData → Option Env} {c : Env → M Bool} {e : Env → M PyData} {x : PyData} {xs ys : List PyData} (h : asg x = some ρ) (h1 : c ρ st = .ok false st1) (h3 : compLoop asg c e xs st1 = .ok ys st3) : compLoop asg c e (x :: xs) st = .ok ys st3 := by
  show M.bind (M.ofOpt (asg x)) _ st = _
  rw [h]
  exact bind_run rfl (bind_run h1 h3)
/-- nothing changes -/
theorem comp_map {asg : PyData → Option Env} {c : Env → M Bool} {e : Env → M PyData} {f : PyData → PyData} : ∀ {xs : List PyData}, (∀ x ∈ xs, ∃ ρ, asg x = some ρ ∧ c ρ st = .ok true st ∧ e ρ st = .ok (f x) st) → compLoop asg c e xs st = .ok (xs.map f) st
  | [], _ => rfl
  | x :: xs, h => by
    obtain ⟨ρ, h1, h2, h3⟩ := h x List.mem_cons_self
    exact comp_t h1 h2 h3 (comp_map fun y hy => h y (List.mem_cons_of_mem _ hy))
theorem comp_filter {asg : PyData → Option Env} {c : Env → M Bool} {e : Env → M PyData} {p : PyData → Bool} {f : PyData → PyData} : ∀ {xs : List PyData}, (∀ x ∈ xs, ∃ ρ, asg x = some ρ ∧ c ρ st = .ok (p x) st ∧ (p x = true → e ρ st = .ok (f x) st)) → compLoop asg c e xs st = .ok ((xs.filter p).map f) st
  | [], _ => rfl
  | x :: xs, h => by
    obtain ⟨ρ, h1, h2, h3⟩ := h x List.mem_cons_self
    have ih := comp_filter (p := p) (f := f) fun y hy => h y (List.mem_cons_of_mem _ hy)
    cases hp : p x with
    | true =>
      rw [hp] at h2
      rw [List.filter_cons_of_pos hp, List.map_cons]
      exact comp_t h1 h2 (h3 hp) ih
    | false =>
      rw [hp] at h2
      rw [List.filter_cons_of_neg (by rw [hp]; exact Bool.false_ne_true)]
      exact comp_f h1 h2 ih
theorem ncomp_run {own : List Nat} {si : Si} {t : Tgt} {c : Sm Bool} {f : Sm W} {s : Src} {ys : List PyData} (h : si cl ρ st = .ok s st1) (h2 : compLoop (fun x => asgD t x (wipeE ρ own)) (c cl) (eltD f cl) s.items st1 = .ok ys st2) : nComp own si t c f cl ρ st = .ok (.list ys) (unlock s.bxs st2) :=
  bind_run h (bind_run h2 rfl)
theorem new_run {m : Sm PyData} {ds : List PyData} (h : m cl ρ st = .ok (.list ds) st1) : eNew m cl ρ st = .ok (.d (.list ds)) st1 := bind_run h rfl
theorem elt_run {f : Sm W} {x : PyData} (h : f cl ρ st = .ok (.d x) st1) : eltD f cl ρ st = .ok x st1 := bind_run h rfl
theorem iof_d {f : Sm W} {a : PyData} {xs : List PyData} (h : f cl ρ st = .ok (.d a) st1) (hi : itemsOf a = some xs) : iOf f cl ρ st = .ok ⟨xs, []⟩ st1 := bind_run h (by
  show M.bind (M.ofOpt (itemsOf a)) _ st1 = _
  rw [hi]
  rfl)
/-! ### expressions -/
theorem e2_run {f g : Sm W} {k : PyData → PyData → Option PyData} {a b c : PyData} (h : f cl ρ st = .ok (.d a) st1) (h2 : g cl ρ st1 = .ok (.d b) st2) (hk : k a b = some c) : e2 f g k cl ρ st = .ok (.d c) st2 :=
  bind_run h (bind_run h2 (by
    show M.bind (M.ofOpt (k a b)) _ st2 = _
    rw [hk]
    rfl))
theorem e1_run {f : Sm W} {k : PyData → Option PyData} {a c : PyData} (h : f cl ρ st = .ok (.d a) st1) (hk : k a = some c) : e1 f k cl ρ st = .ok (.d c) st1 :=
  bind_run h (by
    show M.bind (M.ofOpt (k a)) _ st1 = _
    rw [hk]
    rfl)
theorem bi1 {f : Sm W} {k : List PyData → Option PyData} {a c : PyData} (h : f cl ρ st = .ok (.d a) st1) (hk : k [a] = some c) : eBi [f] k cl ρ st = .ok (.d c) st1 :=
  bind_run (bind_run h (bind_run rfl rfl)) (by
    show M.bind (M.ofOpt (k [a])) _ st1 = _
    rw [hk]
    rfl)
theorem bi2 {f g : Sm W} {k : List PyData → Option PyData} {a b c : PyData} (h : f cl ρ st = .ok (.d a) st1) (h2 : g cl ρ st1 = .ok (.d b) st2) (hk : k [a, b] = some c) : eBi [f, g] k cl ρ st = .ok (.d c) st2 :=
  bind_run (bind_run h (bind_run (bind_run h2 (bind_run rfl rfl)) rfl)) (by
    show M.bind (M.ofOpt (k [a, b])) _ st2 = _
    rw [hk]
    rfl)
theorem call1 {i : Nat} {f : Sm W} {a : PyData} {r : Out W} (h : f cl ρ st = .ok (.d a) st1) (hc : cl i [.d a] st1 = r) : eCall i [f] cl ρ st = r :=
  bind_run (bind_run h (bind_run rfl (bind_run rfl rfl))) hc
theorem call2 {i : Nat} {f g : Sm W} {a b : PyData} {r : Out W} (h : f cl ρ st = .ok (.d a) st1) (h2 : g cl ρ st1 = .ok (.d b) st2) (hc : cl i [.d a, .d b] st2 = r) : eCall i [f, g] cl ρ st = r :=
  bind_run (bind_run h (bind_run rfl (bind_run (bind_run h2 (bind_run rfl (bind_run rfl rfl))) rfl))) hc
theorem call3 {i : Nat} {f g h' : Sm W} {a b c : PyData} {r : Out W} (h : f cl ρ st = .ok (.d a) st1) (h2 : g cl ρ st1 = .ok (.d b) st2) (h3 : h' cl ρ st2 = .ok (.d c) st3) (hc : cl i [.d a, .d b, .d c] st3 = r) : eCall i [f, g, h'] cl ρ st = r :=
  bind_run (bind_run h (bind_run rfl (bind_run (bind_run h2 (bind_run rfl (bind_run (bind_run h3 (bind_run rfl (bind_run rfl rfl))) rfl))) rfl))) hc
theorem call4 {i : Nat} {f g h' j : Sm W} {a b c d : PyData} {r : Out W} (h : f cl ρ st = .ok (.d a) st1) (h2 : g cl ρ st1 = .ok (.d b) st2) (h3 : h' cl ρ st2 = .ok (.d c) st3) (h4 : j cl ρ st3 = .ok (.d d) st4) (hc : cl i [.d a, .d b, .d c, .d d] st4 = r) : eCall i [f, g, h', j] cl ρ st = r :=
  bind_run (bind_run h (bind_run rfl (bind_run (bind_run h2 (bind_run rfl (bind_run (bind_run h3 (bind_run rfl (bind_run (bind_run h4 (bind_run rfl (bind_run rfl rfl))) rfl))) rfl))) rfl))) hc
theorem and_t {f g : Sm W} {r : Out W} (h : f cl ρ st = .ok (.d (.bool true)) st1) (h2 : g cl ρ st1 = r) : eAnd f g cl ρ st = r := bind_run h (bind_run rfl h2)
theorem and_f {f g : Sm W} (h : f cl ρ st = .ok (.d (.bool false)) st1) : eAnd f g cl ρ st = .ok (.d (.bool false)) st1 := bind_run h (bind_run rfl rfl)
theorem and_run {f g : Sm W} {a b : Bool} (h : f cl ρ st = .ok (.d (.bool a)) st) (h2 : a = true → g cl ρ st = .ok (.d (.bool b)) st) : eAnd f g cl ρ st = .ok (.d (.bool (a && b))) st := by
  cases a with
  | true => exact and_t h (h2 rfl)
  | false => exact and_f h
theorem not_run {f : Sm W} {a : Bool} (h : f cl ρ st = .ok (.d (.bool a)) st1) : eNot f cl ρ st = .ok (.d (.bool (!a))) st1 := bind_run h (bind_run rfl rfl)
theorem ifx_t {t : Sm Bool} {f g : Sm W} {r : Out W} (h : t cl ρ st = .ok true st1) (h2 : f cl ρ st1 = r) : eIf t f g cl ρ st = r := bind_run h h2
theorem ifx_f {t : Sm Bool} {f g : Sm W} {r : Out W} (h : t cl ρ st = .ok false st1) (h2 : g cl ρ st1 = r) : eIf t f g cl ρ st = r := bind_run h h2
theorem tof {f : Sm W} {a : PyData} {b : Bool} (h : f cl ρ st = .ok (.d a) st1) (hk : truthD a = some b) : tOf f cl ρ st = .ok b st1 := bind_run h (by
  show M.ofOpt (truthD a) st1 = _
  rw [hk]
  rfl)
theorem tofB {f : Sm W} {b : Bool} (h : f cl ρ st = .ok (.d (.bool b)) st1) : tOf f cl ρ st = .ok b st1 := tof h rfl
theorem tnot {t : Sm Bool} {b : Bool} (h : t cl ρ st = .ok b st1) : tNot t cl ρ st = .ok (!b) st1 := bind_run h rfl
theorem tnot_t {t : Sm Bool} (h : t cl ρ st = .ok true st1) : tNot t cl ρ st = .ok false st1 := bind_run h rfl
theorem tnot_f {t : Sm Bool} (h : t cl ρ st = .ok false st1) : tNot t cl ρ st = .ok true st1 := bind_run h rfl
theorem tor_t {t u : Sm Bool} (h : t cl ρ st = .ok true st1) : tOr t u cl ρ st = .ok true st1 := bind_run h rfl
theorem tor_f {t u : Sm Bool} {r : Out Bool} (h : t cl ρ st = .ok false st1) (h2 : u cl ρ st1 = r) : tOr t u cl ρ st = r := bind_run h h2
theorem tor_run {t u : Sm Bool} {a b : Bool} (h : t cl ρ st = .ok a st) (h2 : a = false → u cl ρ st = .ok b st) : tOr t u cl ρ st = .ok (a || b) st := by
  cases a with
  | true => exact tor_t h
  | false => exact tor_f h (h2 rfl)
theorem cmp_run {op : CmpOp} {f g : Sm W} {a b : PyData} {c : Bool} (h : f cl ρ st = .ok (.d a) st1) (h2 : g cl ρ st1 = .ok (.d b) st2) (hk : cmpD op a b = some c) : eCmp op f g cl ρ st = .ok (.d (.bool c)) st2 :=
  e2_run h h2 (by rw [hk]; rfl)
theorem chain_run {op op' : CmpOp} {f g h' : Sm W} {a b c : PyData} {t u : Bool} (h : f cl ρ st = .ok (.d a) st) (h2 : g cl ρ st = .ok (.d b) st) (hk : cmpD op a b = some t) (h3 : t = true → h' cl ρ st = .ok (.d c) st) (hk2 : t = true → cmpD op' b c = some u) :
    eChain op op' f g h' cl ρ st = .ok (.d (.bool (t && u))) st := bind_run h (bind_run h2 (bind_run rfl (bind_run rfl (by
  show M.bind (M.ofOpt (cmpD op a b)) _ st = _
  rw [hk]
  cases t with
  | false => rfl
  | true =>
    refine bind_run rfl (bind_run (h3 rfl) (bind_run rfl (bind_run rfl ?_)))
    show M.bind (M.ofOpt (cmpD op' b c)) _ st = _
    rw [hk2 rfl]
    rfl))))
/-! ### defs -/
theorem fn_d {np ns : Nat} {b : Bool} {body : Ss} {ws : List W} {x : PyData} (hl : ws.length = np) (h : body cl (ws.map some ++ List.replicate (ns - ws.length) none) st = .ok (.ret (.d x), ρ) (st ++ st1)) (hb : b = false) : runFn ⟨np, ns, b, body⟩ cl ws st = .ok (.d x) st := by
  unfold runFn
  simp only [hl, if_true] at h ⊢
  rw [h, hb]
  show Out.ok (W.d x) ((st ++ st1).take st.length) = _
  rw [List.take_left]
theorem fn_d0 {np ns : Nat} {body : Ss} {ws : List W} {x : PyData} (hl : ws.length = np) (h : body cl (ws.map some ++ List.replicate (ns - ws.length) none) st = .ok (.ret (.d x), ρ) st) : runFn ⟨np, ns, false, body⟩ cl ws st = .ok (.d x) st :=
  fn_d (st1 := []) hl (by rw [List.append_nil]; exact h) rfl
theorem fn_nx {np ns : Nat} {b : Bool} {body : Ss} {ws : List W} (hl : ws.length = np) (h : body cl (ws.map some ++ List.replicate (ns - ws.length) none) st = .ok (.nx, ρ) (st ++ st1)) : runFn ⟨np, ns, b, body⟩ cl ws st = .ok (.d .none) st := by
  unfold runFn
  simp only [hl, if_true] at h ⊢
  rw [h]
  show Out.ok (W.d .none) ((st ++ st1).take st.length) = _
  rw [List.take_left]
end
end Ev

set_option Elab.async false
set_option linter.all false
set_option maxRecDepth 100000
/-! What holds behind a run: rules, one for each form. -/
namespace Ev
open PySem PySem.Spec PyProof.Rows
def Wp {α : Type} (o : Out α) (Q : α → Store → Prop) (E : Exn → Store → Prop) : Prop := match o with
  | .ok a st => Q a st
  | .err x st => E x st
  | .no => False
def noE : Exn → Store → Prop := fun _ _ => False
inductive All2 {α β : Type} (R : α → β → Prop) : List α → List β → Prop where
  | nil : All2 R [] []
  | cons {x : α} {y : β} {xs : List α} {ys : List β} (h : R x y) (t : All2 R xs ys) : All2 R (x :: xs) (y :: ys)
section
variable {cl : Calls} {ρ : Env} {st st1 : Store} {E : Exn → Store → Prop}
theorem wp_bind {α β : Type} {f : M α} {g : α → M β} {Q : β → Store → Prop} (h : Wp (f st) (fun a s => Wp (g a s) Q E) E) : Wp (M.bind f g st) Q E := by
  show Wp (match f st with | .ok a st' => g a st' | .err x st' => .err x st' | .no => .no) Q E
  revert h
  cases f st with
  | ok a s => exact id
  | err x s => exact id
  | no => exact id
theorem bind_wp {α β : Type} {f : M α} {g : α → M β} {Q : β → Store → Prop} (h : Wp (M.bind f g st) Q E) : Wp (f st) (fun a s => Wp (g a s) Q E) E := by
  revert h
  show Wp (match f st with | .ok a st' => g a st' | .err x st' => .err x st' | .no => .no) Q E → _
  cases f st with
  | ok a s => exact id
  | err x s => exact id
  | no => exact id
theorem wp_pure {α : Type} {a : α} {Q : α → Store → Prop} (h : Q a st) : Wp (M.pure a st) Q E := h
theorem wp_is {α : Type} {o : Out α} {a : α} {Q : α → Store → Prop} (e : o = .ok a st) (h : Q a st) : Wp o Q E := by rw [e]; exact h
theorem wp_mono {α : Type} {o : Out α} {Q R : α → Store → Prop} {E' : Exn → Store → Prop} (h : Wp o Q E) (hq : ∀ a s, Q a s → R a s) (he : ∀ x s, E x s → E' x s) : Wp o R E' := by
  revert h
  cases o with
  | ok a s => exact hq a s
  | err x s => exact he x s
  | no => exact id
theorem wp_ok {α : Type} {o : Out α} {a : α} (h : Wp o (fun b s => b = a ∧ s = st) noE) : o = .ok a st := by
  cases o with
  | ok b s => obtain ⟨rfl, rfl⟩ := h; rfl
  | err x s => exact h.elim
  | no => exact h.elim
theorem wp_ex {α : Type} {o : Out α} {Q : α → Store → Prop} (h : Wp o Q noE) : ∃ a s, o = .ok a s ∧ Q a s := by
  cases o with
  | ok b s => exact ⟨b, s, rfl, h⟩
  | err x s => exact h.elim
  | no => exact h.elim
theorem wp_opt {α : Type} {o : Option α} {Q : α → Store → Prop} {a : α} (e : o = some a) (h : Q a st) : Wp (M.ofOpt o st) Q E := by rw [e]; exact h
/-! ### expressions -/
theorem wp_var {i : Nat} {w : W} {Q : W → Store → Prop} (e : ρ[i]? = some (some w)) (h : Q w st) : Wp (eVar i cl ρ st) Q E := by
  show Wp ((match ρ[i]? with | some (some w) => M.pure w | _ => M.no) st) Q E
  rw [e]
  exact h
theorem wp_d {x : PyData} {Q : W → Store → Prop} (h : Q (.d x) st) : Wp (eD x cl ρ st) Q E := h
theorem wp_fnv {i : Nat} {Q : W → Store → Prop} (h : Q (.fn i) st) : Wp (eFn i cl ρ st) Q E := h
theorem wp_deref {x : PyData} {Q : PyData → Store → Prop} (h : Q x st) : Wp (deref (.d x) st) Q E := h
theorem wp_derefB {n : Nat} {v : PyData} {c : CSt} {Q : PyData → Store → Prop} (e : st[n]? = some ⟨v, c⟩) (h : Q v st) : Wp (deref (.bx n) st) Q E := by
  show Wp (match st[n]? with | some c => Out.ok c.val st | none => .no) Q E
  rw [e]
  exact h
theorem wp_toD {x : PyData} {Q : PyData → Store → Prop} (h : Q x st) : Wp (toD (.d x) st) Q E := h
theorem wp_toDB {n : Nat} {l : List PyData} {c : CSt} {Q : PyData → Store → Prop} (e : st[n]? = some ⟨.list l, c⟩) (hc : c ≠ .lock) (h : Q (.list l) (st.set n ⟨.list l, .shut⟩)) : Wp (toD (.bx n) st) Q E := by
  unfold toD
  show Wp (match st[n]? with | some ⟨.list ds, .lock⟩ => .no | some ⟨.list ds, _⟩ => .ok (.list ds) (st.set n ⟨.list ds, .shut⟩) | _ => .no) Q E
  rw [e]
  cases c with
  | lock => exact absurd rfl hc
  | live => exact h
  | shut => exact h
theorem wp_argW {x : PyData} {Q : W → Store → Prop} (h : Q (.d x) st) : Wp (argW (.d x) st) Q E := h
theorem wp_argF {i : Nat} {Q : W → Store → Prop} (h : Q (.fn i) st) : Wp (argW (.fn i) st) Q E := h
theorem wp_argB {n : Nat} {v : PyData} {Q : W → Store → Prop} (e : st[n]? = some ⟨v, .live⟩) (h : Q (.bx n) st) : Wp (argW (.bx n) st) Q E := by
  unfold argW
  show Wp (match st[n]? with | some ⟨v, .shut⟩ => .ok (.d v) st | some _ => .ok (.bx n) st | none => .no) Q E
  rw [e]
  exact h
theorem wp_argL {n : Nat} {v : PyData} {Q : W → Store → Prop} (e : st[n]? = some ⟨v, .lock⟩) (h : Q (.bx n) st) : Wp (argW (.bx n) st) Q E := by
  unfold argW
  show Wp (match st[n]? with | some ⟨v, .shut⟩ => .ok (.d v) st | some _ => .ok (.bx n) st | none => .no) Q E
  rw [e]
  exact h
theorem wp_argS {n : Nat} {v : PyData} {Q : W → Store → Prop} (e : st[n]? = some ⟨v, .shut⟩) (h : Q (.d v) st) : Wp (argW (.bx n) st) Q E := by
  unfold argW
  show Wp (match st[n]? with | some ⟨v, .shut⟩ => .ok (.d v) st | some _ => .ok (.bx n) st | none => .no) Q E
  rw [e]
  exact h
theorem wp_evD0 {Q : List PyData → Store → Prop} (h : Q [] st) : Wp (evalsD [] cl ρ st) Q E := h
theorem wp_evD {f : Sm W} {fs : List (Sm W)} {Q : List PyData → Store → Prop} (h : Wp (f cl ρ st) (fun w s => Wp (toD w s) (fun x s => Wp (evalsD fs cl ρ s) (fun xs s => Q (x :: xs) s) E) E) E) : Wp (evalsD (f :: fs) cl ρ st) Q E :=
  wp_bind (wp_mono h (fun _ _ h => wp_bind (wp_mono h (fun _ _ h => wp_bind h) fun _ _ => id)) fun _ _ => id)
theorem wp_evA0 {Q : List W → Store → Prop} (h : Q [] st) : Wp (evalsA [] cl ρ st) Q E := h
theorem wp_evA {f : Sm W} {fs : List (Sm W)} {Q : List W → Store → Prop} (h : Wp (f cl ρ st) (fun w s => Wp (argW w s) (fun x s => Wp (evalsA fs cl ρ s) (fun xs s => Q (x :: xs) s) E) E) E) : Wp (evalsA (f :: fs) cl ρ st) Q E :=
  wp_bind (wp_mono h (fun _ _ h => wp_bind (wp_mono h (fun _ _ h => wp_bind h) fun _ _ => id)) fun _ _ => id)
theorem wp_evR0 {Q : List W → Store → Prop} (h : Q [] st) : Wp (evalsR [] cl ρ st) Q E := h
theorem wp_evR {f : Sm W} {fs : List (Sm W)} {Q : List W → Store → Prop} (h : Wp (f cl ρ st) (fun w s => Wp (evalsR fs cl ρ s) (fun xs s => Q (w :: xs) s) E) E) : Wp (evalsR (f :: fs) cl ρ st) Q E :=
  wp_bind (wp_mono h (fun _ _ h => wp_bind h) fun _ _ => id)
theorem wp_drs0 {Q : List PyData → Store → Prop} (h : Q [] st) : Wp (derefs [] st) Q E := h
theorem wp_drs {w : W} {ws : List W} {Q : List PyData → Store → Prop} (h : Wp (deref w st) (fun x s => Wp (derefs ws s) (fun xs s => Q (x :: xs) s) E) E) : Wp (derefs (w :: ws) st) Q E :=
  wp_bind (wp_mono h (fun _ _ h => wp_bind h) fun _ _ => id)
theorem wp_tup {fs : List (Sm W)} {Q : W → Store → Prop} (h : Wp (evalsD fs cl ρ st) (fun ds s => Q (.d (.tuple ds)) s) E) : Wp (eTup fs cl ρ st) Q E := wp_bind h
theorem wp_nlist {fs : List (Sm W)} {Q : PyData → Store → Prop} (h : Wp (evalsD fs cl ρ st) (fun ds s => Q (.list ds) s) E) : Wp (nList fs cl ρ st) Q E := wp_bind h
theorem wp_new {f : Sm PyData} {Q : W → Store → Prop} (h : Wp (f cl ρ st) (fun x s => ∃ ds, x = .list ds ∧ Q (.d (.list ds)) s) E) : Wp (eNew f cl ρ st) Q E :=
  wp_bind (wp_mono h (fun _ _ h => by obtain ⟨ds, rfl, h⟩ := h; exact h) fun _ _ => id)
theorem wp_box {f : Sm PyData} {Q : W → Store → Prop} (h : Wp (f cl ρ st) (fun x s => Q (.bx s.length) (s ++ [⟨x, .live⟩])) E) : Wp (eBox f cl ρ st) Q E := wp_bind h
theorem wp_e2 {f g : Sm W} {k : PyData → PyData → Option PyData} {Q : W → Store → Prop} (h : Wp (f cl ρ st) (fun x s => Wp (g cl ρ s) (fun y s => Wp (deref x s) (fun a s => Wp (deref y s) (fun b s => ∃ c, k a b = some c ∧ Q (.d c) s) E) E) E) E) : Wp (e2 f g k cl ρ st) Q E :=
  wp_bind (wp_mono h (fun _ _ h => wp_bind (wp_mono h (fun _ _ h => wp_bind (wp_mono h (fun _ _ h => wp_bind (wp_mono h (fun _ _ h => by
    obtain ⟨c, e, h⟩ := h
    exact wp_bind (wp_opt e h)) fun _ _ => id)) fun _ _ => id)) fun _ _ => id)) fun _ _ => id)
theorem wp_bin {op : Operator} {f g : Sm W} {Q : W → Store → Prop} (h : Wp (f cl ρ st) (fun x s => Wp (g cl ρ s) (fun y s => Wp (deref x s) (fun a s => Wp (deref y s) (fun b s => ∃ c, binD op a b = some c ∧ Q (.d c) s) E) E) E) E) : Wp (eBin op f g cl ρ st) Q E := wp_e2 h
theorem wp_item {f g : Sm W} {Q : W → Store → Prop} (h : Wp (f cl ρ st) (fun x s => Wp (g cl ρ s) (fun y s => Wp (deref x s) (fun a s => Wp (deref y s) (fun b s => ∃ c, itemD a b = some c ∧ Q (.d c) s) E) E) E) E) : Wp (eItem f g cl ρ st) Q E := wp_e2 h
theorem wp_cmp {op : CmpOp} {f g : Sm W} {Q : W → Store → Prop} (h : Wp (f cl ρ st) (fun x s => Wp (g cl ρ s) (fun y s => Wp (deref x s) (fun a s => Wp (deref y s) (fun b s => ∃ c, cmpD op a b = some c ∧ Q (.d (.bool c)) s) E) E) E) E) : Wp (eCmp op f g cl ρ st) Q E :=
  wp_e2 (wp_mono h (fun _ _ h => wp_mono h (fun _ _ h => wp_mono h (fun _ _ h => wp_mono h (fun _ _ h => by
    obtain ⟨c, e, h⟩ := h
    exact ⟨_, by rw [e]; rfl, h⟩) fun _ _ => id) fun _ _ => id) fun _ _ => id) fun _ _ => id)
theorem wp_chain {op op' : CmpOp} {f g h' : Sm W} {Q : W → Store → Prop} (h : Wp (f cl ρ st) (fun x s => Wp (g cl ρ s) (fun y s => Wp (deref x s) (fun a s => Wp (deref y s) (fun b s => ∃ t, cmpD op a b = some t ∧
    (t = false → Q (.d (.bool false)) s) ∧ (t = true → Wp (h' cl ρ s) (fun z s => Wp (deref y s) (fun b' s => Wp (deref z s) (fun c s => ∃ t', cmpD op' b' c = some t' ∧ Q (.d (.bool t')) s) E) E) E)) E) E) E) E) : Wp (eChain op op' f g h' cl ρ st) Q E :=
  wp_bind (wp_mono h (fun _ _ h => wp_bind (wp_mono h (fun _ _ h => wp_bind (wp_mono h (fun _ _ h => wp_bind (wp_mono h (fun _ _ h => by
    obtain ⟨t, e, h1, h2⟩ := h
    refine wp_bind (wp_opt e ?_)
    cases t with
    | false => exact h1 rfl
    | true => exact wp_bind (wp_mono (h2 rfl) (fun _ _ h => wp_bind (wp_mono h (fun _ _ h => wp_bind (wp_mono h (fun _ _ h => by
        obtain ⟨c, e, h⟩ := h
        exact wp_bind (wp_opt e h)) fun _ _ => id)) fun _ _ => id)) fun _ _ => id)) fun _ _ => id)) fun _ _ => id)) fun _ _ => id)) fun _ _ => id)
theorem wp_e1 {f : Sm W} {k : PyData → Option PyData} {Q : W → Store → Prop} (h : Wp (f cl ρ st) (fun x s => Wp (deref x s) (fun a s => ∃ c, k a = some c ∧ Q (.d c) s) E) E) : Wp (e1 f k cl ρ st) Q E :=
  wp_bind (wp_mono h (fun _ _ h => wp_bind (wp_mono h (fun _ _ h => by
    obtain ⟨c, e, h⟩ := h
    exact wp_bind (wp_opt e h)) fun _ _ => id)) fun _ _ => id)
theorem wp_sl00 {f : Sm W} {Q : W → Store → Prop} (h : Wp (f cl ρ st) (fun x s => Wp (deref x s) (fun a s => ∃ c, sliceD a none none = some c ∧ Q (.d c) s) E) E) : Wp (eSlice f none none cl ρ st) Q E :=
  wp_bind (wp_mono h (fun _ _ h => wp_bind (wp_pure (wp_bind (wp_pure (wp_bind (wp_mono h (fun _ _ h => by
    obtain ⟨c, e, h⟩ := h
    exact wp_bind (wp_opt e h)) fun _ _ => id)))))) fun _ _ => id)
theorem wp_sl10 {f l : Sm W} {Q : W → Store → Prop} (h : Wp (f cl ρ st) (fun x s => Wp (l cl ρ s) (fun w s => ∃ i, w = .d (.int i) ∧ Wp (deref x s) (fun a s => ∃ c, sliceD a (some i) none = some c ∧ Q (.d c) s) E) E) E) : Wp (eSlice f (some l) none cl ρ st) Q E :=
  wp_bind (wp_mono h (fun _ _ h => wp_bind (wp_bind (wp_mono h (fun _ _ h => by
    obtain ⟨i, rfl, h⟩ := h
    exact wp_pure (wp_bind (wp_pure (wp_bind (wp_mono h (fun _ _ h => by
      obtain ⟨c, e, h⟩ := h
      exact wp_bind (wp_opt e h)) fun _ _ => id))))) fun _ _ => id))) fun _ _ => id)
theorem wp_sl01 {f u : Sm W} {Q : W → Store → Prop} (h : Wp (f cl ρ st) (fun x s => Wp (u cl ρ s) (fun w s => ∃ i, w = .d (.int i) ∧ Wp (deref x s) (fun a s => ∃ c, sliceD a none (some i) = some c ∧ Q (.d c) s) E) E) E) : Wp (eSlice f none (some u) cl ρ st) Q E :=
  wp_bind (wp_mono h (fun _ _ h => wp_bind (wp_pure (wp_bind (wp_bind (wp_mono h (fun _ _ h => by
    obtain ⟨i, rfl, h⟩ := h
    exact wp_pure (wp_bind (wp_mono h (fun _ _ h => by
      obtain ⟨c, e, h⟩ := h
      exact wp_bind (wp_opt e h)) fun _ _ => id))) fun _ _ => id))))) fun _ _ => id)
theorem wp_sl11 {f l u : Sm W} {Q : W → Store → Prop} (h : Wp (f cl ρ st) (fun x s => Wp (l cl ρ s) (fun w s => ∃ i, w = .d (.int i) ∧ Wp (u cl ρ s) (fun w s => ∃ j, w = .d (.int j) ∧ Wp (deref x s) (fun a s => ∃ c, sliceD a (some i) (some j) = some c ∧ Q (.d c) s) E) E) E) E) : Wp (eSlice f (some l) (some u) cl ρ st) Q E :=
  wp_bind (wp_mono h (fun _ _ h => wp_bind (wp_bind (wp_mono h (fun _ _ h => by
    obtain ⟨i, rfl, h⟩ := h
    exact wp_pure (wp_bind (wp_bind (wp_mono h (fun _ _ h => by
      obtain ⟨i, rfl, h⟩ := h
      exact wp_pure (wp_bind (wp_mono h (fun _ _ h => by
        obtain ⟨c, e, h⟩ := h
        exact wp_bind (wp_opt e h)) fun _ _ => id))) fun _ _ => id)))) fun _ _ => id))) fun _ _ => id)
theorem wp_tOf {f : Sm W} {Q : Bool → Store → Prop} (h : Wp (f cl ρ st) (fun x s => Wp (deref x s) (fun a s => ∃ c, truthD a = some c ∧ Q c s) E) E) : Wp (tOf f cl ρ st) Q E :=
  wp_bind (wp_mono h (fun _ _ h => wp_bind (wp_mono h (fun _ _ h => by
    obtain ⟨c, e, h⟩ := h
    exact wp_opt e h) fun _ _ => id)) fun _ _ => id)
theorem wp_tNot {t : Sm Bool} {Q : Bool → Store → Prop} (h : Wp (t cl ρ st) (fun b s => Q (!b) s) E) : Wp (tNot t cl ρ st) Q E := wp_bind h
theorem wp_tAnd {t u : Sm Bool} {Q : Bool → Store → Prop} (h : Wp (t cl ρ st) (fun b s => (b = false → Q false s) ∧ (b = true → Wp (u cl ρ s) Q E)) E) : Wp (tAnd t u cl ρ st) Q E :=
  wp_bind (wp_mono h (fun b _ h => by
    cases b with
    | false => exact h.1 rfl
    | true => exact h.2 rfl) fun _ _ => id)
theorem wp_tOr {t u : Sm Bool} {Q : Bool → Store → Prop} (h : Wp (t cl ρ st) (fun b s => (b = true → Q true s) ∧ (b = false → Wp (u cl ρ s) Q E)) E) : Wp (tOr t u cl ρ st) Q E :=
  wp_bind (wp_mono h (fun b _ h => by
    cases b with
    | false => exact h.2 rfl
    | true => exact h.1 rfl) fun _ _ => id)
/-- nothing changes: one answer -/
theorem wp_tAnd' {t u : Sm Bool} {Q : Bool → Store → Prop} {a b : Bool} (h1 : Wp (t cl ρ st) (fun c s => c = a ∧ s = st) noE) (h2 : a = true → Wp (u cl ρ st) (fun c s => c = b ∧ s = st) noE) (h : Q (a && b) st) : Wp (tAnd t u cl ρ st) Q E := by
  refine wp_tAnd (wp_mono h1 ?_ (fun _ _ h => h.elim))
  rintro c s ⟨rfl, rfl⟩
  refine ⟨fun e => ?_, fun e => wp_mono (h2 e) ?_ (fun _ _ h => h.elim)⟩
  · subst e; exact h
  · rintro c s ⟨rfl, rfl⟩
    subst e; exact h
theorem wp_tOr' {t u : Sm Bool} {Q : Bool → Store → Prop} {a b : Bool} (h1 : Wp (t cl ρ st) (fun c s => c = a ∧ s = st) noE) (h2 : a = false → Wp (u cl ρ st) (fun c s => c = b ∧ s = st) noE) (h : Q (a || b) st) : Wp (tOr t u cl ρ st) Q E := by
  refine wp_tOr (wp_mono h1 ?_ (fun _ _ h => h.elim))
  rintro c s ⟨rfl, rfl⟩
  refine ⟨fun e => ?_, fun e => wp_mono (h2 e) ?_ (fun _ _ h => h.elim)⟩
  · subst e; exact h
  · rintro c s ⟨rfl, rfl⟩
    subst e; exact h
theorem wp_eAnd {f g : Sm W} {Q : W → Store → Prop} (h : Wp (f cl ρ st) (fun w s => ∃ b, w = .d (.bool b) ∧ (b = false → Q (.d (.bool false)) s) ∧ (b = true → Wp (g cl ρ s) Q E)) E) : Wp (eAnd f g cl ρ st) Q E :=
  wp_bind (wp_mono h (fun w _ h => by
    obtain ⟨b, rfl, h⟩ := h
    refine wp_bind (wp_pure ?_)
    cases b with
    | false => exact h.1 rfl
    | true => exact h.2 rfl) fun _ _ => id)
theorem wp_eOr {f g : Sm W} {Q : W → Store → Prop} (h : Wp (f cl ρ st) (fun w s => ∃ b, w = .d (.bool b) ∧ (b = true → Q (.d (.bool true)) s) ∧ (b = false → Wp (g cl ρ s) Q E)) E) : Wp (eOr f g cl ρ st) Q E :=
  wp_bind (wp_mono h (fun w _ h => by
    obtain ⟨b, rfl, h⟩ := h
    refine wp_bind (wp_pure ?_)
    cases b with
    | false => exact h.2 rfl
    | true => exact h.1 rfl) fun _ _ => id)
theorem wp_eAnd' {f g : Sm W} {Q : W → Store → Prop} {a b : Bool} (h1 : Wp (f cl ρ st) (fun w s => w = .d (.bool a) ∧ s = st) noE) (h2 : a = true → Wp (g cl ρ st) (fun w s => w = .d (.bool b) ∧ s = st) noE) (h : Q (.d (.bool (a && b))) st) : Wp (eAnd f g cl ρ st) Q E := by
  refine wp_eAnd (wp_mono h1 ?_ (fun _ _ h => h.elim))
  rintro c s ⟨rfl, rfl⟩
  refine ⟨_, rfl, fun e => ?_, fun e => wp_mono (h2 e) ?_ (fun _ _ h => h.elim)⟩
  · subst e; exact h
  · rintro c s ⟨rfl, rfl⟩
    subst e; exact h
theorem wp_eOr' {f g : Sm W} {Q : W → Store → Prop} {a b : Bool} (h1 : Wp (f cl ρ st) (fun w s => w = .d (.bool a) ∧ s = st) noE) (h2 : a = false → Wp (g cl ρ st) (fun w s => w = .d (.bool b) ∧ s = st) noE) (h : Q (.d (.bool (a || b))) st) : Wp (eOr f g cl ρ st) Q E := by
  refine wp_eOr (wp_mono h1 ?_ (fun _ _ h => h.elim))
  rintro c s ⟨rfl, rfl⟩
  refine ⟨_, rfl, fun e => ?_, fun e => wp_mono (h2 e) ?_ (fun _ _ h => h.elim)⟩
  · subst e; exact h
  · rintro c s ⟨rfl, rfl⟩
    subst e; exact h
theorem wp_eNot {f : Sm W} {Q : W → Store → Prop} (h : Wp (f cl ρ st) (fun w s => ∃ b, w = .d (.bool b) ∧ Q (.d (.bool (!b))) s) E) : Wp (eNot f cl ρ st) Q E :=
  wp_bind (wp_mono h (fun w _ h => by
    obtain ⟨b, rfl, h⟩ := h
    exact wp_bind (wp_pure h)) fun _ _ => id)
theorem wp_eIf {t : Sm Bool} {f g : Sm W} {Q : W → Store → Prop} (h : Wp (t cl ρ st) (fun b s => (b = true → Wp (f cl ρ s) Q E) ∧ (b = false → Wp (g cl ρ s) Q E)) E) : Wp (eIf t f g cl ρ st) Q E :=
  wp_bind (wp_mono h (fun b _ h => by
    cases b with
    | false => exact h.2 rfl
    | true => exact h.1 rfl) fun _ _ => id)
/-- both sides told, nothing changes -/
theorem wp_eIf' {t : Sm Bool} {f g : Sm W} {Q : W → Store → Prop} {b : Bool} {x y : PyData} (h1 : Wp (t cl ρ st) (fun c s => c = b ∧ s = st) noE) (h2 : b = true → Wp (f cl ρ st) (fun w s => w = .d x ∧ s = st) noE) (h3 : b = false → Wp (g cl ρ st) (fun w s => w = .d y ∧ s = st) noE) (h : Q (.d (if b then x else y)) st) : Wp (eIf t f g cl ρ st) Q E := by
  refine wp_eIf (wp_mono h1 ?_ (fun _ _ h => h.elim))
  rintro c s ⟨rfl, rfl⟩
  refine ⟨fun e => wp_mono (h2 e) ?_ (fun _ _ h => h.elim), fun e => wp_mono (h3 e) ?_ (fun _ _ h => h.elim)⟩
  · rintro c s ⟨rfl, rfl⟩
    subst e; exact h
  · rintro c s ⟨rfl, rfl⟩
    subst e; exact h
theorem wp_call {i : Nat} {fs : List (Sm W)} {Q : W → Store → Prop} (h : Wp (evalsA fs cl ρ st) (fun ws s => Wp (cl i ws s) Q E) E) : Wp (eCall i fs cl ρ st) Q E := wp_bind h
theorem wp_callV {j i : Nat} {fs : List (Sm W)} {Q : W → Store → Prop} (e : ρ[j]? = some (some (.fn i))) (h : Wp (evalsA fs cl ρ st) (fun ws s => Wp (cl i ws s) Q E) E) : Wp (eCallV j fs cl ρ st) Q E :=
  wp_bind (wp_var e (wp_bind h))
theorem wp_bi {fs : List (Sm W)} {k : List PyData → Option PyData} {Q : W → Store → Prop} (h : Wp (evalsR fs cl ρ st) (fun ws s => Wp (derefs ws s) (fun ds s => ∃ c, k ds = some c ∧ Q (.d c) s) E) E) : Wp (eBi fs k cl ρ st) Q E :=
  wp_bind (wp_mono h (fun _ _ h => wp_bind (wp_mono h (fun _ _ h => by
    obtain ⟨c, e, h⟩ := h
    exact wp_bind (wp_opt e h)) fun _ _ => id)) fun _ _ => id)
theorem wp_nbi {fs : List (Sm W)} {k : List PyData → Option PyData} {Q : PyData → Store → Prop} (h : Wp (evalsR fs cl ρ st) (fun ws s => Wp (derefs ws s) (fun ds s => ∃ c, k ds = some c ∧ Q c s) E) E) : Wp (nBi fs k cl ρ st) Q E :=
  wp_bind (wp_mono h (fun _ _ h => wp_bind (wp_mono h (fun _ _ h => by
    obtain ⟨c, e, h⟩ := h
    exact wp_opt e h) fun _ _ => id)) fun _ _ => id)
theorem wp_meth {f : Sm W} {gs : List (Sm W)} {k : Kd → List PyData → Option PyData} {Q : W → Store → Prop} (h : Wp (f cl ρ st) (fun w s => Wp (deref w s) (fun a s => ∃ kd, kdOf a = some kd ∧ Wp (evalsR gs cl ρ s) (fun us s => Wp (derefs (w :: us) s) (fun ds s => ∃ c, k kd ds = some c ∧ Q (.d c) s) E) E) E) E) : Wp (eMeth f gs k cl ρ st) Q E :=
  wp_bind (wp_mono h (fun _ _ h => wp_bind (wp_mono h (fun _ _ h => by
    obtain ⟨kd, e, h⟩ := h
    exact wp_bind (wp_opt e (wp_bind (wp_mono h (fun _ _ h => wp_bind (wp_mono h (fun _ _ h => by
      obtain ⟨c, e, h⟩ := h
      exact wp_bind (wp_opt e h)) fun _ _ => id)) fun _ _ => id)))) fun _ _ => id)) fun _ _ => id)
theorem wp_live {n : Nat} {v : PyData} {Q : Nat × PyData → Store → Prop} (e : st[n]? = some ⟨v, .live⟩) (h : Q (n, v) st) : Wp (liveAt (.bx n) st) Q E := by
  show Wp (match st[n]? with | some ⟨v, .live⟩ => Out.ok (n, v) st | _ => .no) Q E
  rw [e]
  exact h
theorem wp_setB {n : Nat} {v u : PyData} {Q : Unit → Store → Prop} (e : st[n]? = some ⟨v, .live⟩) (h : Q () (st.set n ⟨u, .live⟩)) : Wp (setBox n u st) Q E := by
  show Wp (match st[n]? with | some ⟨_, .live⟩ => Out.ok () (st.set n ⟨u, .live⟩) | _ => .no) Q E
  rw [e]
  exact h
/-- a change of a box -/
theorem wp_mut {f : Sm W} {gs : List (Sm W)} {k : Kd → PyData → List PyData → Option (PyData × PyData)} {Q : W → Store → Prop} (h : Wp (f cl ρ st) (fun w s => ∃ n, w = .bx n ∧ Wp (deref w s) (fun a s => ∃ kd, kdOf a = some kd ∧ Wp (evalsD gs cl ρ s) (fun xs s => ∃ v, s[n]? = some ⟨v, .live⟩ ∧ ∃ r, k kd v xs = some r ∧ Q (.d r.2) (s.set n ⟨r.1, .live⟩)) E) E) E) : Wp (eMut f gs k cl ρ st) Q E :=
  wp_bind (wp_mono h (fun _ _ h => by
    obtain ⟨n, rfl, h⟩ := h
    exact wp_bind (wp_mono h (fun _ _ h => by
      obtain ⟨kd, e, h⟩ := h
      exact wp_bind (wp_opt e (wp_bind (wp_mono h (fun _ _ h => by
        obtain ⟨v, e, r, e2, h⟩ := h
        exact wp_bind (wp_live e (wp_bind (wp_opt e2 (wp_bind (wp_setB e (wp_pure h))))))) fun _ _ => id)))) fun _ _ => id)) fun _ _ => id)
/-! ### sources -/
theorem wp_iof {f : Sm W} {Q : Src → Store → Prop} (h : Wp (f cl ρ st) (fun w s => Wp (srcOf w itemsOf s) Q E) E) : Wp (iOf f cl ρ st) Q E := wp_bind h
theorem wp_src {x : PyData} {k : PyData → Option (List PyData)} {Q : Src → Store → Prop} {xs : List PyData} (e : k x = some xs) (h : Q ⟨xs, []⟩ st) : Wp (srcOf (.d x) k st) Q E := wp_bind (wp_deref (wp_bind (wp_opt e (wp_bind (wp_pure h)))))
theorem wp_srcB {n : Nat} {x : PyData} {k : PyData → Option (List PyData)} {Q : Src → Store → Prop} {xs : List PyData} (g : st[n]? = some ⟨x, .live⟩) (e : k x = some xs) (h : Q ⟨xs, [n]⟩ (st.set n ⟨x, .lock⟩)) : Wp (srcOf (.bx n) k st) Q E := by
  refine wp_bind (wp_derefB g (wp_bind (wp_opt e (wp_bind ?_))))
  show Wp (match st[n]? with | some ⟨v, .live⟩ => .ok [n] (st.set n ⟨v, .lock⟩) | some _ => .ok [] st | none => .no) _ E
  rw [g]
  exact h
theorem wp_range1 {f : Sm W} {Q : Src → Store → Prop} (h : Wp (f cl ρ st) (fun w s => ∃ j : Int, w = .d (.int j) ∧ (-(2 ^ 62) ≤ j ∧ j ≤ 16777216) ∧ Q ⟨intsFrom 0 j.toNat, []⟩ s) E) : Wp (iRange1 f cl ρ st) Q E :=
  wp_bind (wp_mono h (fun _ s h => by
    obtain ⟨j, rfl, hj, h⟩ := h
    show Wp ((if -(2 ^ 62) ≤ j ∧ j ≤ 16777216 then M.pure (⟨intsFrom 0 j.toNat, []⟩ : Src) else M.no) s) Q E
    rw [if_pos hj]
    exact h) fun _ _ => id)
theorem wp_range2 {f g : Sm W} {Q : Src → Store → Prop} (h : Wp (f cl ρ st) (fun w s => Wp (g cl ρ s) (fun u s => ∃ i j : Int, w = .d (.int i) ∧ u = .d (.int j) ∧ ((-(2 ^ 62) ≤ i ∧ i < 2 ^ 62 ∧ -(2 ^ 62) ≤ j ∧ j < 2 ^ 62) ∧ j - i ≤ 16777216) ∧ Q ⟨intsFrom i (j - i).toNat, []⟩ s) E) E) : Wp (iRange2 f g cl ρ st) Q E :=
  wp_bind (wp_mono h (fun _ s h => wp_bind (wp_mono h (fun _ s h => by
    obtain ⟨i, j, rfl, rfl, hj, h⟩ := h
    show Wp ((if (-(2 ^ 62) ≤ i ∧ i < 2 ^ 62 ∧ -(2 ^ 62) ≤ j ∧ j < 2 ^ 62) ∧ j - i ≤ 16777216 then M.pure (⟨intsFrom i (j - i).toNat, []⟩ : Src) else M.no) s) Q E
    rw [if_pos hj]
    exact h) fun _ _ => id)) fun _ _ => id)
theorem wp_zip2 {f g : Sm W} {Q : Src → Store → Prop} (h : Wp (f cl ρ st) (fun w s => Wp (g cl ρ s) (fun u s => Wp (srcOf w itemsOf s) (fun p s => Wp (srcOf u itemsOf s) (fun q s => Q ⟨zip2 p.items q.items, p.bxs ++ q.bxs⟩ s) E) E) E) E) : Wp (iZip2 f g cl ρ st) Q E :=
  wp_bind (wp_mono h (fun _ s h => wp_bind (wp_mono h (fun _ s h => wp_bind (wp_mono h (fun _ s h => wp_bind h) fun _ _ => id)) fun _ _ => id)) fun _ _ => id)
theorem wp_enum {f : Sm W} {Q : Src → Store → Prop} (h : Wp (f cl ρ st) (fun w s => Wp (srcOf w itemsOf s) (fun p s => Q ⟨enumFrom 0 p.items, p.bxs⟩ s) E) E) : Wp (iEnum f cl ρ st) Q E :=
  wp_bind (wp_mono h (fun _ s h => wp_bind h) fun _ _ => id)
theorem wp_iby {k : PyData → Option (List PyData)} {f : Sm W} {Q : Src → Store → Prop} (h : Wp (f cl ρ st) (fun w s => Wp (srcOf w k s) Q E) E) : Wp (iBy k f cl ρ st) Q E := wp_bind h
/-! ### comprehensions -/
theorem wp_ncomp {own : List Nat} {si : Si} {t : Tgt} {c : Sm Bool} {f : Sm W} {Q : PyData → Store → Prop} (h : Wp (si cl ρ st) (fun s s1 => Wp (compLoop (fun x => asgD t x (wipeE ρ own)) (c cl) (eltD f cl) s.items s1) (fun ys s2 => Q (.list ys) (unlock s.bxs s2)) E) E) : Wp (nComp own si t c f cl ρ st) Q E :=
  wp_bind (wp_mono h (fun _ _ h => wp_bind (wp_mono h (fun _ _ h => wp_bind h) fun _ _ => id)) fun _ _ => id)
theorem wp_elt {f : Sm W} {Q : PyData → Store → Prop} (h : Wp (f cl ρ st) (fun w s => Wp (toD w s) Q E) E) : Wp (eltD f cl ρ st) Q E := wp_bind h
/-- all of some, nothing changes -/
theorem wp_map {α : Type} {asg : PyData → Option Env} {e : Env → M PyData} {Q : List PyData → Store → Prop} {en : α → PyData} (f : α → PyData) {xs : List α}
    (h : ∀ x ∈ xs, ∃ ρ, asg (en x) = some ρ ∧ Wp (e ρ st) (fun y s => y = f x ∧ s = st) noE) (hq : Q (xs.map f) st) : Wp (compLoop asg (cYes cl) e (xs.map en) st) Q E := by
  refine wp_is (a := xs.map f) (st := st) ?_ hq
  clear hq
  induction xs with
  | nil => rfl
  | cons x xs ih =>
    obtain ⟨ρ, h1, h2⟩ := h x List.mem_cons_self
    exact comp_t h1 rfl (wp_ok h2) (ih fun y hy => h y (List.mem_cons_of_mem _ hy))
/-- some of some, nothing changes -/
theorem wp_filter {α : Type} {asg : PyData → Option Env} {c : Env → M Bool} {e : Env → M PyData} {Q : List PyData → Store → Prop} {en : α → PyData} (p : α → Bool) (f : α → PyData) {xs : List α}
    (h : ∀ x ∈ xs, ∃ ρ, asg (en x) = some ρ ∧ Wp (c ρ st) (fun b s => b = p x ∧ s = st) noE ∧ (p x = true → Wp (e ρ st) (fun y s => y = f x ∧ s = st) noE)) (hq : Q ((xs.filter p).map f) st) : Wp (compLoop asg c e (xs.map en) st) Q E := by
  refine wp_is (a := (xs.filter p).map f) (st := st) ?_ hq
  clear hq
  induction xs with
  | nil => rfl
  | cons x xs ih =>
    obtain ⟨ρ, h1, h2, h3⟩ := h x List.mem_cons_self
    have ih := ih fun y hy => h y (List.mem_cons_of_mem _ hy)
    have h2 := wp_ok h2
    cases hp : p x with
    | true =>
      rw [hp] at h2
      rw [List.filter_cons_of_pos hp, List.map_cons]
      exact comp_t h1 h2 (wp_ok (h3 hp)) ih
    | false =>
      rw [hp] at h2
      rw [List.filter_cons_of_neg (by rw [hp]; exact Bool.false_ne_true)]
      exact comp_f h1 h2 ih
/-- all of some, the store goes on -/
theorem wp_each {α : Type} {asg : PyData → Option Env} {e : Env → M PyData} {Q : List PyData → Store → Prop} {en : α → PyData} (S : Store → Prop) (R : α → PyData → Prop) {xs : List α} (hS : S st)
    (h : ∀ x ∈ xs, ∀ st, S st → ∃ ρ, asg (en x) = some ρ ∧ Wp (e ρ st) (fun y s => R x y ∧ S s) E) (hq : ∀ ys s, All2 R xs ys → S s → Q ys s) : Wp (compLoop asg (cYes cl) e (xs.map en) st) Q E := by
  induction xs generalizing st Q with
  | nil => exact hq [] st .nil hS
  | cons x xs ih =>
    obtain ⟨ρ, h1, h2⟩ := h x List.mem_cons_self st hS
    show Wp (M.bind (M.ofOpt (asg (en x))) _ st) Q E
    refine wp_bind (wp_opt h1 (wp_bind (wp_pure (wp_bind (wp_mono h2 ?_ fun _ _ => id)))))
    rintro y s ⟨hy, hs⟩
    exact wp_bind (ih hs (fun z hz => h z (List.mem_cons_of_mem _ hz)) fun ys s2 hys hs2 => hq _ _ (.cons hy hys) hs2)
theorem wp_filter0 {asg : PyData → Option Env} {c : Env → M Bool} {e : Env → M PyData} {Q : List PyData → Store → Prop} (p : PyData → Bool) (f : PyData → PyData) {xs : List PyData}
    (h : ∀ x ∈ xs, ∃ ρ, asg x = some ρ ∧ Wp (c ρ st) (fun b s => b = p x ∧ s = st) noE ∧ (p x = true → Wp (e ρ st) (fun y s => y = f x ∧ s = st) noE)) (hq : Q ((xs.filter p).map f) st) : Wp (compLoop asg c e xs st) Q E := by
  have := wp_filter (E := E) (en := id) (asg := asg) (c := c) (e := e) (Q := Q) (st := st) p f (xs := xs) h hq
  rwa [List.map_id] at this
theorem wp_map0 {asg : PyData → Option Env} {e : Env → M PyData} {Q : List PyData → Store → Prop} (f : PyData → PyData) {xs : List PyData}
    (h : ∀ x ∈ xs, ∃ ρ, asg x = some ρ ∧ Wp (e ρ st) (fun y s => y = f x ∧ s = st) noE) (hq : Q (xs.map f) st) : Wp (compLoop asg (cYes cl) e xs st) Q E := by
  have := wp_map (E := E) (cl := cl) (en := id) (asg := asg) (e := e) (Q := Q) (st := st) f (xs := xs) h hq
  rwa [List.map_id] at this
/-! ### statements -/
theorem wp_assoc {a b c : Ss} {Q : Fl × Env → Store → Prop} (h : Wp (sSeq a (sSeq b c) cl ρ st) Q E) : Wp (sSeq (sSeq a b) c cl ρ st) Q E := by
  refine wp_bind (wp_bind ?_)
  revert h
  show Wp (M.bind (a cl ρ) _ st) Q E → _
  unfold M.bind
  cases a cl ρ st with
  | ok r s =>
    obtain ⟨fl, ρ'⟩ := r
    cases fl with
    | nx => 
      intro h
      show Wp (b cl ρ' s) (fun r s => Wp _ Q E) E
      have h : Wp (M.bind (b cl ρ') _ s) Q E := h
      unfold M.bind at h
      revert h
      cases b cl ρ' s <;> exact id
    | brk => exact id
    | cont => exact id
    | ret w => exact id
  | err x s => exact id
  | no => exact id
theorem wp_skip {c : Ss} {Q : Fl × Env → Store → Prop} (h : Wp (c cl ρ st) Q E) : Wp (sSeq sNext c cl ρ st) Q E := h
theorem wp_next {Q : Fl × Env → Store → Prop} (h : Q (.nx, ρ) st) : Wp (sNext cl ρ st) Q E := h
theorem wp_set {i : Nat} {f : Sm W} {c : Ss} {Q : Fl × Env → Store → Prop} (h : Wp (f cl ρ st) (fun w s => Wp (c cl (ρ.set i (some w)) s) Q E) E) : Wp (sSeq (sSet i f) c cl ρ st) Q E := wp_bind (wp_bind h)
theorem wp_drop {f : Sm W} {c : Ss} {Q : Fl × Env → Store → Prop} (h : Wp (f cl ρ st) (fun w s => Wp (c cl ρ s) Q E) E) : Wp (sSeq (sDrop f) c cl ρ st) Q E := wp_bind (wp_bind h)
theorem wp_ret {f : Sm W} {c : Ss} {Q : Fl × Env → Store → Prop} (h : Wp (f cl ρ st) (fun w s => Q (.ret w, ρ) s) E) : Wp (sSeq (sRet f) c cl ρ st) Q E := wp_bind (wp_bind h)
theorem wp_brk {c : Ss} {Q : Fl × Env → Store → Prop} (h : Q (.brk, ρ) st) : Wp (sSeq sBreak c cl ρ st) Q E := h
theorem wp_cont {c : Ss} {Q : Fl × Env → Store → Prop} (h : Q (.cont, ρ) st) : Wp (sSeq sCont c cl ρ st) Q E := h
theorem wp_if {t : Sm Bool} {a b c : Ss} {Q : Fl × Env → Store → Prop} (h : Wp (t cl ρ st) (fun x s => (x = true → Wp (sSeq a c cl ρ s) Q E) ∧ (x = false → Wp (sSeq b c cl ρ s) Q E)) E) : Wp (sSeq (sIf t a b) c cl ρ st) Q E :=
  wp_bind (wp_bind (wp_mono h (fun x _ h => by
    cases x with
    | true => exact bind_wp (h.1 rfl)
    | false => exact bind_wp (h.2 rfl)) fun _ _ => id))
theorem wp_par {is : List Nat} {fs : List (Sm W)} {c : Ss} {Q : Fl × Env → Store → Prop} (h : Wp (evalsR fs cl ρ st) (fun ws s => Wp (c cl (setAll is ws ρ) s) Q E) E) : Wp (sSeq (sPar is fs) c cl ρ st) Q E := wp_bind (wp_bind h)
theorem wp_asg {t : Tgt} {f : Sm W} {c : Ss} {Q : Fl × Env → Store → Prop} (h : Wp (f cl ρ st) (fun w s => ∃ a, w = .d a ∧ ∃ ρ', asgD t a ρ = some ρ' ∧ Wp (c cl ρ' s) Q E) E) : Wp (sSeq (sAsg t f) c cl ρ st) Q E :=
  wp_bind (wp_bind (wp_mono h (fun _ _ h => by
    obtain ⟨a, rfl, ρ', e, h⟩ := h
    exact wp_bind (wp_pure (wp_bind (wp_opt e (wp_pure h))))) fun _ _ => id))
theorem wp_put {f g h' : Sm W} {c : Ss} {Q : Fl × Env → Store → Prop} (h : Wp (h' cl ρ st) (fun w s => Wp (toD w s) (fun v s => Wp (f cl ρ s) (fun o s => ∃ n, o = .bx n ∧ Wp (g cl ρ s) (fun i s => Wp (deref i s) (fun i s => ∃ a, s[n]? = some ⟨a, .live⟩ ∧ ∃ b, putD a i v = some b ∧ Wp (c cl ρ (s.set n ⟨b, .live⟩)) Q E) E) E) E) E) E) : Wp (sSeq (sPut f g h') c cl ρ st) Q E :=
  wp_bind (wp_bind (wp_mono h (fun _ _ h => wp_bind (wp_mono h (fun _ _ h => wp_bind (wp_mono h (fun _ _ h => by
    obtain ⟨n, rfl, h⟩ := h
    exact wp_bind (wp_bind (wp_mono h (fun _ _ h => (wp_mono h (fun _ _ h => by
      obtain ⟨a, e, b, e2, h⟩ := h
      exact wp_bind (wp_live e (wp_bind (wp_opt e2 (wp_bind (wp_setB e (wp_pure h))))))) fun _ _ => id)) fun _ _ => id))) fun _ _ => id)) fun _ _ => id)) fun _ _ => id))
/-- what goes on behind a loop -/
def LoopK (c : Ss) (cl : Calls) (Q : Fl × Env → Store → Prop) (E : Exn → Store → Prop) (bxs : List Nat) : Fl × Env → Store → Prop := fun r s => match r.1 with
  | .nx => Wp (c cl r.2 (unlock bxs s)) Q E
  | fl => Q (fl, r.2) (unlock bxs s)
theorem wp_for {t : Tgt} {si : Si} {body c : Ss} {Q : Fl × Env → Store → Prop} (h : Wp (si cl ρ st) (fun p s => Wp (forLoop (asgD t) (body cl) p.items ρ s) (LoopK c cl Q E p.bxs) E) E) : Wp (sSeq (sFor t si body) c cl ρ st) Q E :=
  wp_bind (wp_bind (wp_mono h (fun _ _ h => wp_bind (wp_mono h (fun r _ h => by
    obtain ⟨fl, ρ'⟩ := r
    refine wp_bind ?_
    cases fl <;> exact h) fun _ _ => id)) fun _ _ => id))
theorem wp_while {t : Sm Bool} {body c : Ss} {Q : Fl × Env → Store → Prop} (h : Wp (whileLoop (t cl) (body cl) wFuel ρ st) (LoopK c cl Q E []) E) : Wp (sSeq (sWhile t body) c cl ρ st) Q E :=
  wp_bind (wp_mono h (fun r _ h => by
    obtain ⟨fl, ρ'⟩ := r
    cases fl <;> exact h) fun _ _ => id)
/-- one turn's end -/
def TurnK (I : Env → Store → Prop) (Q : Fl × Env → Store → Prop) : Fl × Env → Store → Prop := fun r s => match r.1 with
  | .nx => I r.2 s
  | .cont => I r.2 s
  | .brk => Q (.nx, r.2) s
  | .ret w => Q (.ret w, r.2) s
/-- a loop by what holds ahead of the rest -/
theorem for_inv {α : Type} {asg : PyData → Env → Option Env} {body : Env → M (Fl × Env)} {en : α → PyData} {Q : Fl × Env → Store → Prop} (I : List α → Env → Store → Prop) {xs : List α} (h0 : I xs ρ st)
    (hs : ∀ x l ρ st, I (x :: l) ρ st → ∃ ρ1, asg (en x) ρ = some ρ1 ∧ Wp (body ρ1 st) (TurnK (I l) Q) E) (hq : ∀ ρ st, I [] ρ st → Q (.nx, ρ) st) : Wp (forLoop asg body (xs.map en) ρ st) Q E := by
  induction xs generalizing ρ st with
  | nil => exact hq ρ st h0
  | cons x xs ih =>
    obtain ⟨ρ1, h1, h2⟩ := hs x xs ρ st h0
    show Wp (M.bind (M.ofOpt (asg (en x) ρ)) _ st) Q E
    refine wp_bind (wp_opt h1 (wp_bind (wp_mono h2 ?_ fun _ _ => id)))
    rintro ⟨fl, ρ2⟩ s h
    cases fl with
    | nx => exact ih h
    | cont => exact ih h
    | brk => exact h
    | ret w => exact h
theorem for_inv0 {asg : PyData → Env → Option Env} {body : Env → M (Fl × Env)} {Q : Fl × Env → Store → Prop} (I : List PyData → Env → Store → Prop) {xs : List PyData} (h0 : I xs ρ st)
    (hs : ∀ x l ρ st, I (x :: l) ρ st → ∃ ρ1, asg x ρ = some ρ1 ∧ Wp (body ρ1 st) (TurnK (I l) Q) E) (hq : ∀ ρ st, I [] ρ st → Q (.nx, ρ) st) : Wp (forLoop asg body xs ρ st) Q E := by
  have := for_inv (E := E) (en := id) (asg := asg) (body := body) (Q := Q) (ρ := ρ) (st := st) I (xs := xs) h0 hs hq
  rwa [List.map_id] at this
/-- a loop until no more holds -/
theorem while_inv {t : Env → M Bool} {body : Env → M (Fl × Env)} {Q : Fl × Env → Store → Prop} (I : Nat → Env → Store → Prop)
    (hs : ∀ n ρ st, I n ρ st → Wp (t ρ st) (fun b s => (b = false → Q (.nx, ρ) s) ∧ (b = true → Wp (body ρ s) (TurnK (fun ρ s => ∃ m, m < n ∧ I m ρ s) Q) E)) E) : ∀ (fuel n : Nat) (ρ : Env) (st : Store), n < fuel → I n ρ st → Wp (whileLoop t body fuel ρ st) Q E := by
  intro fuel
  induction fuel with
  | zero => intro n ρ st h; exact absurd h (Nat.not_lt_zero _)
  | succ fuel ih =>
    intro n ρ st hn h0
    refine wp_bind (wp_mono (hs n ρ st h0) ?_ fun _ _ => id)
    intro b s h
    cases b with
    | false => exact wp_pure (h.1 rfl)
    | true =>
      refine wp_bind (wp_mono (h.2 rfl) ?_ fun _ _ => id)
      rintro ⟨fl, ρ2⟩ s h
      cases fl with
      | nx => obtain ⟨m, hm, h⟩ := h; exact ih m _ _ (by omega) h
      | cont => obtain ⟨m, hm, h⟩ := h; exact ih m _ _ (by omega) h
      | brk => exact h
      | ret w => exact h
/-! ### defs -/
/-- a def's end: without boxes in its answer -/
def FnK (n : Nat) (Q : W → Store → Prop) : Fl × Env → Store → Prop := fun r s => match r.1 with
  | .nx => Q (.d .none) (s.take n)
  | .ret (.fn i) => Q (.fn i) (s.take n)
  | .ret w => Wp (toD w s) (fun x s' => Q (.d x) (s'.take n)) noE
  | _ => False
theorem wp_fn {np ns : Nat} {b : Bool} {body : Ss} {ws : List W} {Q : W → Store → Prop} (hl : ws.length = np) (hb : b = false) (h : Wp (body cl (ws.map some ++ List.replicate (ns - ws.length) none) st) (FnK st.length Q) (fun x s => E x (s.take st.length))) : Wp (runFn ⟨np, ns, b, body⟩ cl ws st) Q E := by
  subst hb
  unfold runFn
  simp only [hl, if_true] at h ⊢
  revert h
  show Wp (body cl _ st) _ _ → Wp (match body cl _ st with | .ok (f, _) st' => _ | .err x st' => _ | .no => _) Q E
  cases body cl _ st with
  | ok r s =>
    obtain ⟨fl, ρ'⟩ := r
    intro h
    cases fl with
    | nx => exact h
    | ret w => cases w with
      | d x => exact h
      | fn i => exact h
      | bx n =>
        show Wp (match toD (.bx n) s with | .ok x st' => Out.ok (W.d x) (st'.take st.length) | _ => .no) Q E
        have h : Wp (toD (.bx n) s) (fun x s' => Q (.d x) (s'.take st.length)) noE := h
        revert h
        cases toD (.bx n) s with
        | ok x s' => exact id
        | err x s' => exact fun h => h.elim
        | no => exact id
    | brk => exact h.elim
    | cont => exact h.elim
  | err x s => exact id
  | no => exact id
theorem wp_fnT {np ns : Nat} {b : Bool} {body : Ss} {ws : List W} {Q : W → Store → Prop} (hl : ws.length = np) (hb : b = true) (h : Wp (body cl (ws.map some ++ List.replicate (ns - ws.length) none) st) (fun r s => match r.1 with | .nx => Q (.d .none) (s.take st.length) | .ret (.fn i) => Q (.fn i) (s.take st.length) | .ret w => Q w s | _ => False) (fun x s => E x (s.take st.length))) : Wp (runFn ⟨np, ns, b, body⟩ cl ws st) Q E := by
  subst hb
  unfold runFn
  simp only [hl, if_true] at h ⊢
  revert h
  show Wp (body cl _ st) _ _ → Wp (match body cl _ st with | .ok (f, _) st' => _ | .err x st' => _ | .no => _) Q E
  cases body cl _ st with
  | ok r s =>
    obtain ⟨fl, ρ'⟩ := r
    intro h
    cases fl with
    | nx => exact h
    | ret w => cases w with
      | d x => exact h
      | fn i => exact h
      | bx n => exact h
    | brk => exact h.elim
    | cont => exact h.elim
  | err x s => exact id
  | no => exact id
theorem fnk_nx {Q : W → Store → Prop} (h : Q (.d .none) st) : FnK st.length Q (.nx, ρ) st := by
  show Q (.d .none) (st.take st.length)
  rw [List.take_length]
  exact h
theorem fnk_nx1 {l : Store} {Q : W → Store → Prop} (h : Q (.d .none) st) : FnK st.length Q (.nx, ρ) (st ++ l) := by
  show Q (.d .none) ((st ++ l).take st.length)
  rw [List.take_left]
  exact h
theorem fnk_d {x : PyData} {Q : W → Store → Prop} (h : Q (.d x) st) : FnK st.length Q (.ret (.d x), ρ) st := by
  show Q (.d x) (st.take st.length)
  rw [List.take_length]
  exact h
theorem fnk_d1 {x : PyData} {l : Store} {Q : W → Store → Prop} (h : Q (.d x) st) : FnK st.length Q (.ret (.d x), ρ) (st ++ l) := by
  show Q (.d x) ((st ++ l).take st.length)
  rw [List.take_left]
  exact h
theorem fnk_dl {x : PyData} {s : Store} {n : Nat} {Q : W → Store → Prop} (e : s.length = n) (h : Q (.d x) s) : FnK n Q (.ret (.d x), ρ) s := by
  subst e
  exact fnk_d h
theorem fnk_dc {x : PyData} {c c' : Cell} {l : Store} {Q : W → Store → Prop} (h : Q (.d x) (c' :: l)) : FnK (c :: l).length Q (.ret (.d x), ρ) (c' :: l) := fnk_dl rfl h
theorem fnk_t {x : PyData} {s s' : Store} {n : Nat} {Q : W → Store → Prop} (e : s'.take n = s) (h : Q (.d x) s) : FnK n Q (.ret (.d x), ρ) s' := by
  subst e
  exact h
theorem fnk_b {m n : Nat} {s : Store} {Q : W → Store → Prop} (h : Wp (toD (.bx m) s) (fun x s' => Q (.d x) (s'.take n)) noE) : FnK n Q (.ret (.bx m), ρ) s := h
theorem lit_t {A B : Prop} (h : A) : (true = true → A) ∧ (true = false → B) := ⟨fun _ => h, fun e => nomatch e⟩
theorem lit_f {A B : Prop} (h : B) : (false = true → A) ∧ (false = false → B) := ⟨fun e => (nomatch e), fun _ => h⟩
theorem if_eqt {x : Bool} {A B : Prop} (e : x = true) (h : A) : (x = true → A) ∧ (x = false → B) := ⟨fun _ => h, fun f => by rw [e] at f; cases f⟩
theorem if_eqf {x : Bool} {A B : Prop} (e : x = false) (h : B) : (x = true → A) ∧ (x = false → B) := ⟨fun f => by (rw [e] at f; cases f), fun _ => h⟩
theorem if2_eqt {x : Bool} {A B : Prop} (e : x = true) (h : B) : (x = false → A) ∧ (x = true → B) := ⟨fun f => by (rw [e] at f; cases f), fun _ => h⟩
theorem if2_eqf {x : Bool} {A B : Prop} (e : x = false) (h : A) : (x = false → A) ∧ (x = true → B) := ⟨fun _ => h, fun f => by rw [e] at f; cases f⟩
theorem litn_t {A B : Prop} (h : B) : ((!true) = true → A) ∧ ((!true) = false → B) := ⟨fun e => (nomatch e), fun _ => h⟩
theorem litn_f {A B : Prop} (h : A) : ((!false) = true → A) ∧ ((!false) = false → B) := ⟨fun _ => h, fun e => nomatch e⟩
theorem litn2_t {A B : Prop} (h : A) : ((!true) = false → A) ∧ ((!true) = true → B) := ⟨fun _ => h, fun e => (nomatch e)⟩
theorem litn2_f {A B : Prop} (h : B) : ((!false) = false → A) ∧ ((!false) = true → B) := ⟨fun e => (nomatch e), fun _ => h⟩
theorem lit2_t {A B : Prop} (h : B) : (true = false → A) ∧ (true = true → B) := ⟨fun e => (nomatch e), fun _ => h⟩
theorem lit2_f {A B : Prop} (h : A) : (false = false → A) ∧ (false = true → B) := ⟨fun _ => h, fun e => nomatch e⟩
theorem ex_some {α : Type} {o : Option α} {a : α} {P : α → Prop} (e : o = some a) (h : P a) : ∃ c, o = some c ∧ P c := ⟨a, e, h⟩
theorem ex_cell {s : Store} {n : Nat} {v : PyData} {P : PyData → Prop} (e : s[n]? = some ⟨v, .live⟩) (h : P v) : ∃ v, s[n]? = some ⟨v, .live⟩ ∧ P v := ⟨v, e, h⟩
theorem app_k {xs : List PyData} {x : PyData} (h : xs.length < sizeLine) : appendK .list (.list xs) [x] = some (.list (xs ++ [x]), .none) := if_pos h
theorem ex_int {i : Int} {P : Int → Prop} (h : P i) : ∃ j, W.d (.int i) = .d (.int j) ∧ P j := ⟨i, rfl, h⟩
theorem ex_bool {i : Bool} {P : Bool → Prop} (h : P i) : ∃ j, W.d (.bool i) = .d (.bool j) ∧ P j := ⟨i, rfl, h⟩
theorem ex_dat {i : PyData} {P : PyData → Prop} (h : P i) : ∃ j, W.d i = .d j ∧ P j := ⟨i, rfl, h⟩
theorem ex_bx {i : Nat} {P : Nat → Prop} (h : P i) : ∃ j, W.bx i = .bx j ∧ P j := ⟨i, rfl, h⟩
theorem ex_lst {i : List PyData} {P : List PyData → Prop} (h : P i) : ∃ j, PyData.list i = .list j ∧ P j := ⟨i, rfl, h⟩
theorem wp_var1 {i : Nat} {Q : W → Store → Prop} (h : ∃ w, ρ[i]? = some (some w) ∧ Q w st) : Wp (eVar i cl ρ st) Q E := by
  obtain ⟨w, e, h⟩ := h
  exact wp_var e h
theorem wp_callV1 {j : Nat} {fs : List (Sm W)} {Q : W → Store → Prop} (h : ∃ i, ρ[j]? = some (some (.fn i)) ∧ Wp (evalsA fs cl ρ st) (fun ws s => Wp (cl i ws s) Q E) E) : Wp (eCallV j fs cl ρ st) Q E := by
  obtain ⟨w, e, h⟩ := h
  exact wp_callV e h
theorem wp_src1 {x : PyData} {k : PyData → Option (List PyData)} {Q : Src → Store → Prop} (h : ∃ xs, k x = some xs ∧ Q ⟨xs, []⟩ st) : Wp (srcOf (.d x) k st) Q E := by
  obtain ⟨w, e, h⟩ := h
  exact wp_src e h
theorem wp_derefB1 {n : Nat} {Q : PyData → Store → Prop} (h : ∃ v, (∃ c, st[n]? = some ⟨v, c⟩) ∧ Q v st) : Wp (deref (.bx n) st) Q E := by
  obtain ⟨v, ⟨c, e⟩, h⟩ := h
  exact wp_derefB e h
theorem ex_cell1 {s : Store} {n : Nat} {P : PyData → Prop} (h : ∃ v, s[n]? = some ⟨v, .live⟩ ∧ P v) : ∃ v, s[n]? = some ⟨v, .live⟩ ∧ P v := h
theorem ex_some1 {α : Type} {o : Option α} {P : α → Prop} (h : ∃ c, o = some c ∧ P c) : ∃ c, o = some c ∧ P c := h
theorem ex1 {α : Type} {a : α} {P : α → Prop} (h : P a) : ∃ b, a = b ∧ P b := ⟨a, rfl, h⟩
theorem loopk_nx {c : Ss} {Q : Fl × Env → Store → Prop} (h : Wp (c cl ρ st) Q E) : LoopK c cl Q E [] (.nx, ρ) st := h
theorem loopk_nx1 {c : Ss} {n : Nat} {Q : Fl × Env → Store → Prop} {v : PyData} (e : st[n]? = some ⟨v, .lock⟩) (h : Wp (c cl ρ (st.set n ⟨v, .live⟩)) Q E) : LoopK c cl Q E [n] (.nx, ρ) st := by
  show Wp (c cl ρ (unlock [] (match st[n]? with | some ⟨v, .lock⟩ => st.set n ⟨v, .live⟩ | _ => st))) Q E
  rw [e]
  exact h
theorem loopk_ret {c : Ss} {w : W} {Q : Fl × Env → Store → Prop} (h : Q (.ret w, ρ) st) : LoopK c cl Q E [] (.ret w, ρ) st := h
theorem turnk_nx {I : Env → Store → Prop} {Q : Fl × Env → Store → Prop} (h : I ρ st) : TurnK I Q (.nx, ρ) st := h
theorem turnk_cont {I : Env → Store → Prop} {Q : Fl × Env → Store → Prop} (h : I ρ st) : TurnK I Q (.cont, ρ) st := h
theorem turnk_brk {I : Env → Store → Prop} {Q : Fl × Env → Store → Prop} (h : Q (.nx, ρ) st) : TurnK I Q (.brk, ρ) st := h
theorem turnk_ret {I : Env → Store → Prop} {w : W} {Q : Fl × Env → Store → Prop} (h : Q (.ret w, ρ) st) : TurnK I Q (.ret w, ρ) st := h
end
theorem unlock_lock {S : Store} {n : Nat} {v : PyData} (hg : S[n]? = some ⟨v, .live⟩) : unlock [n] (S.set n ⟨v, .lock⟩) = S := by
  have hn : n < S.length := by
    rw [List.getElem?_eq_some_iff] at hg
    exact hg.1
  simp only [unlock, List.getElem?_set_self hn]
  rw [List.set_set]
  rw [List.getElem?_eq_some_iff] at hg
  obtain ⟨_, hg⟩ := hg
  rw [← hg, List.set_getElem_self]
/-! ### places in a store -/
theorem at0 {s l : Store} {c : Cell} : (s ++ c :: l)[s.length]? = some c := by simp
theorem at1 {s l : Store} {a c : Cell} : (s ++ a :: c :: l)[s.length + 1]? = some c := by simp
theorem at2 {s l : Store} {a b c : Cell} : (s ++ a :: b :: c :: l)[s.length + 2]? = some c := by simp
end Ev

set_option Elab.async false
set_option linter.all false
set_option maxRecDepth 100000
/-! What operations answer on data of known kinds. -/
namespace Ev
open PySem PySem.Spec PyProof.Rows
section
variable {α β : Type} {en : α → PyData} {l m : List α} {xs ys : List PyData}
theorem cut_lo {γ : Type} (l : List γ) (j : Nat) : cutL l (some (j : Int)) none = l.drop j := by
  unfold cutL
  rw [HT.sIx_nat, HT.sIx_none]
  by_cases h : j ≤ l.length
  · rw [Nat.min_eq_left h, List.take_of_length_le]
    simp
  · rw [Nat.min_eq_right (by omega)]
    simp [List.drop_eq_nil_of_le (show l.length ≤ j by omega)]
theorem cut_hi {γ : Type} (l : List γ) (j : Nat) : cutL l none (some (j : Int)) = l.take j := by
  unfold cutL
  rw [HT.sIx_nat, HT.sIx_none, List.drop_zero, Nat.sub_zero]
  by_cases h : j ≤ l.length
  · rw [Nat.min_eq_left h]
  · rw [Nat.min_eq_right (by omega), List.take_length, List.take_of_length_le (by omega)]
theorem cut_mid {γ : Type} (l : List γ) (i j : Nat) : cutL l (some (i : Int)) (some (j : Int)) = (l.take j).drop i := by
  unfold cutL
  rw [HT.sIx_nat, HT.sIx_nat, List.drop_take]
  by_cases h : i ≤ l.length
  · rw [Nat.min_eq_left h]
    by_cases h2 : j ≤ l.length
    · rw [Nat.min_eq_left h2]
    · rw [Nat.min_eq_right (by omega), List.take_of_length_le (by simp), List.take_of_length_le (by simp; omega)]
  · simp [List.drop_eq_nil_of_le (show l.length ≤ i by omega), Nat.min_eq_right (show l.length ≤ i by omega)]
theorem sl_l_lo {j : Nat} : sliceD (.list (l.map en)) (some (j : Int)) none = some (.list ((l.drop j).map en)) := by
  show some (PyData.list (cutL (l.map en) (some (j : Int)) none)) = _
  rw [cut_lo, List.map_drop]
theorem sl_l_hi {j : Nat} : sliceD (.list (l.map en)) none (some (j : Int)) = some (.list ((l.take j).map en)) := by
  show some (PyData.list (cutL (l.map en) none (some (j : Int)))) = _
  rw [cut_hi, List.map_take]
theorem sl_l_mid {i j : Nat} : sliceD (.list (l.map en)) (some (i : Int)) (some (j : Int)) = some (.list (((l.take j).drop i).map en)) := by
  show some (PyData.list (cutL (l.map en) (some (i : Int)) (some (j : Int)))) = _
  rw [cut_mid, List.map_drop, List.map_take]
theorem sl_t_lo {j : Nat} : sliceD (.tuple (l.map en)) (some (j : Int)) none = some (.tuple ((l.drop j).map en)) := by
  show some (PyData.tuple (cutL (l.map en) (some (j : Int)) none)) = _
  rw [cut_lo, List.map_drop]
theorem sl_t_hi {j : Nat} : sliceD (.tuple (l.map en)) none (some (j : Int)) = some (.tuple ((l.take j).map en)) := by
  show some (PyData.tuple (cutL (l.map en) none (some (j : Int)))) = _
  rw [cut_hi, List.map_take]
theorem sl_t_mid {i j : Nat} : sliceD (.tuple (l.map en)) (some (i : Int)) (some (j : Int)) = some (.tuple (((l.take j).drop i).map en)) := by
  show some (PyData.tuple (cutL (l.map en) (some (i : Int)) (some (j : Int)))) = _
  rw [cut_mid, List.map_drop, List.map_take]
theorem cat_l (h : l.length + m.length ≤ sizeLine) : binD .Add (.list (l.map en)) (.list (m.map en)) = some (.list ((l ++ m).map en)) := by
  show (if (l.map en).length + (m.map en).length ≤ sizeLine then some (PyData.list (l.map en ++ m.map en)) else none) = _
  rw [List.length_map, List.length_map, if_pos h, List.map_append]
theorem cat_t (h : l.length + m.length ≤ sizeLine) : binD .Add (.tuple (l.map en)) (.tuple (m.map en)) = some (.tuple ((l ++ m).map en)) := by
  show (if (l.map en).length + (m.map en).length ≤ sizeLine then some (PyData.tuple (l.map en ++ m.map en)) else none) = _
  rw [List.length_map, List.length_map, if_pos h, List.map_append]
theorem cat_l0 (h : xs.length + ys.length ≤ sizeLine) : binD .Add (.list xs) (.list ys) = some (.list (xs ++ ys)) := if_pos h
theorem cat_t0 (h : xs.length + ys.length ≤ sizeLine) : binD .Add (.tuple xs) (.tuple ys) = some (.tuple (xs ++ ys)) := if_pos h
theorem cat_s {x y : Str} (h : x.length + y.length ≤ sizeLine) : binD .Add (.str x) (.str y) = some (.str (x ++ y)) := if_pos h
theorem at_nat {γ : Type} {l : List γ} {n : Nat} {x : γ} (h : l[n]? = some x) : L2.atI l (n : Int) = some x := by
  have hn : n < l.length := by
    rw [List.getElem?_eq_some_iff] at h
    exact h.1
  unfold L2.atI L2.ixN
  rw [if_pos (by omega), if_pos (by omega)]
  show l[(n : Int).toNat]? = _
  rw [Int.toNat_natCast, h]
theorem at_back {γ : Type} {l : List γ} {n : Nat} {x : γ} (h : l[n]? = some x) (hl : l.length = n + 1) : L2.atI l (-1) = some x := by
  unfold L2.atI L2.ixN
  rw [if_neg (by decide), if_pos (by omega)]
  show l[((-1 : Int) + (l.length : Int)).toNat]? = _
  rw [show ((-1 : Int) + (l.length : Int)).toNat = n by omega, h]
theorem it_l {n : Nat} {x : α} (h : l[n]? = some x) : itemD (.list (l.map en)) (.int (n : Int)) = some (en x) :=
  at_nat (l := l.map en) (by rw [List.getElem?_map, h]; rfl)
theorem it_t {n : Nat} {x : α} (h : l[n]? = some x) : itemD (.tuple (l.map en)) (.int (n : Int)) = some (en x) :=
  at_nat (l := l.map en) (by rw [List.getElem?_map, h]; rfl)
theorem it_l0 {n : Nat} {x : PyData} (h : xs[n]? = some x) : itemD (.list xs) (.int (n : Int)) = some x := at_nat h
theorem it_t0 {n : Nat} {x : PyData} (h : xs[n]? = some x) : itemD (.tuple xs) (.int (n : Int)) = some x := at_nat h
theorem is_item {a i : PyData} {P : PyData → Prop} (h : False) : ∃ c, itemD a i = some c ∧ P c := h.elim
theorem is_join {d : Kd} {a : List PyData} {P : PyData → Prop} (h : False) : ∃ c, joinM d a = some c ∧ P c := h.elim
theorem is_index {d : Kd} {a : List PyData} {P : PyData → Prop} (h : False) : ∃ c, indexM d a = some c ∧ P c := h.elim
theorem is_min {a : List PyData} {P : PyData → Prop} (h : False) : ∃ c, minB a = some c ∧ P c := h.elim
theorem is_max {a b : PyData} {P : PyData → Prop} (h : False) : ∃ c, maxB [a] = some c ∧ P c := h.elim
theorem it_l_0 {x : PyData} : itemD (.list (x :: xs)) (.int 0) = some x := at_nat (n := 0) rfl
theorem it_l_1 {x y : PyData} : itemD (.list (x :: y :: xs)) (.int 1) = some y := at_nat (n := 1) rfl
theorem it_l_2 {x y z : PyData} : itemD (.list (x :: y :: z :: xs)) (.int 2) = some z := at_nat (n := 2) rfl
theorem it_t_0 {x : PyData} : itemD (.tuple (x :: xs)) (.int 0) = some x := at_nat (n := 0) rfl
theorem it_t_1 {x y : PyData} : itemD (.tuple (x :: y :: xs)) (.int 1) = some y := at_nat (n := 1) rfl
theorem it_t_2 {x y z : PyData} : itemD (.tuple (x :: y :: z :: xs)) (.int 2) = some z := at_nat (n := 2) rfl
theorem mod_int {i j : Int} (h : 0 < j) : binD .Mod (.int i) (.int j) = some (.int (i % j)) := if_pos h
theorem mul_int {i j : Int} (h : mulOk i j = true) : binD .Mult (.int i) (.int j) = some (.int (i * j)) := if_pos h
theorem div_int {i j : Int} (h : 0 < j) (h2 : j.natAbs < 2 ^ 200) : binD .FloorDiv (.int i) (.int j) = some (.int (i / j)) := if_pos ⟨h, h2⟩
theorem mulOk_l {i j : Int} (h : -(2 ^ 64) < i) (h2 : i < 2 ^ 64) : mulOk i j = true := by
  unfold mulOk
  rw [decide_eq_true h, decide_eq_true h2]
  rfl
theorem mulOk_r {i j : Int} (h : -(2 ^ 64) < j) (h2 : j < 2 ^ 64) : mulOk i j = true := by
  unfold mulOk
  rw [decide_eq_true h, decide_eq_true h2]
  simp
theorem ex_mul {i j : Int} {P : PyData → Prop} (h : mulOk i j = true) (p : P (.int (i * j))) : ∃ c, binD .Mult (.int i) (.int j) = some c ∧ P c := ⟨_, mul_int h, p⟩
theorem ex_mod {i j : Int} {P : PyData → Prop} (h : 0 < j) (p : P (.int (i % j))) : ∃ c, binD .Mod (.int i) (.int j) = some c ∧ P c := ⟨_, mod_int h, p⟩
theorem ex_div {i j : Int} {P : PyData → Prop} (h : 0 < j ∧ j.natAbs < 2 ^ 200) (p : P (.int (i / j))) : ∃ c, binD .FloorDiv (.int i) (.int j) = some c ∧ P c := ⟨_, div_int h.1 h.2, p⟩
theorem ex_cat_l {P : PyData → Prop} (h : l.length + m.length ≤ sizeLine) (p : P (.list ((l ++ m).map en))) : ∃ c, binD .Add (.list (l.map en)) (.list (m.map en)) = some c ∧ P c := ⟨_, cat_l h, p⟩
theorem ex_cat_t {P : PyData → Prop} (h : l.length + m.length ≤ sizeLine) (p : P (.tuple ((l ++ m).map en))) : ∃ c, binD .Add (.tuple (l.map en)) (.tuple (m.map en)) = some c ∧ P c := ⟨_, cat_t h, p⟩
theorem ex_cat_l0 {P : PyData → Prop} (h : xs.length + ys.length ≤ sizeLine) (p : P (.list (xs ++ ys))) : ∃ c, binD .Add (.list xs) (.list ys) = some c ∧ P c := ⟨_, cat_l0 h, p⟩
theorem ex_cat_t0 {P : PyData → Prop} (h : xs.length + ys.length ≤ sizeLine) (p : P (.tuple (xs ++ ys))) : ∃ c, binD .Add (.tuple xs) (.tuple ys) = some c ∧ P c := ⟨_, cat_t0 h, p⟩
theorem ex_cat_b {P : PyData → Prop} (h : xs.length + ys.length ≤ sizeLine) (p : P (.list (xs ++ ys))) : ∃ c, catB [.list xs, .list ys] = some c ∧ P c := ⟨_, cat_l0 h, p⟩
theorem ex_cat_s {x y : Str} {P : PyData → Prop} (h : x.length + y.length ≤ sizeLine) (p : P (.str (x ++ y))) : ∃ c, binD .Add (.str x) (.str y) = some c ∧ P c := ⟨_, cat_s h, p⟩
theorem ex_app {xs : List PyData} {x : PyData} {P : PyData × PyData → Prop} (h : xs.length < sizeLine) (p : P (.list (xs ++ [x]), .none)) : ∃ r, appendK .list (.list xs) [x] = some r ∧ P r := ⟨_, app_k h, p⟩
theorem pow1012 : binD .Pow (.int 10) (.int 12) = some (.int 1000000000000) := by kernel_rfl
theorem pow1018 : binD .Pow (.int 10) (.int 18) = some (.int 1000000000000000000) := by kernel_rfl
theorem eq_int {i j : Int} : cmpD .Eq (.int i) (.int j) = some (decide (i = j)) := by
  have e : PyData.eqv (.int i) (.int j) = decide (i = j) := by
    simp only [PyData.eqv]
    rfl
  simp only [cmpD, isDict, cmpP, eqD, shallow, PyData.depth, e]
  rfl
theorem ne_int {i j : Int} : cmpD .NotEq (.int i) (.int j) = some (!decide (i = j)) := by
  have h := @eq_int i j
  show (eqD (.int i) (.int j)).map not = _
  rw [show eqD (.int i) (.int j) = some (decide (i = j)) from h]
  rfl
theorem eq_nil {x : PyData} (hx : isDict x = false) (hd : x.depth ≤ 60) : cmpD .Eq x (.list []) = some (match x with | .list l => l.isEmpty | _ => false) := by
  have e : PyData.eqv x (.list []) = (match x with | .list l => l.isEmpty | _ => false) := by
    cases x with
    | list l => cases l <;> simp [PyData.eqv, PyData.eqvAll]
    | _ => simp [PyData.eqv]
  unfold cmpD
  rw [hx]
  show eqD x (.list []) = _
  unfold eqD
  rw [if_pos (by simp [shallow, PyData.depth, PyData.depthAll, hd]), e]
theorem depth_le {n : Nat} : ∀ {l : List PyData}, (∀ x ∈ l, x.depth ≤ n) → PyData.depthAll l ≤ n
  | [], _ => by simp [PyData.depthAll]
  | x :: l, h => by
    rw [PyData.depthAll]
    exact Nat.max_le.mpr ⟨h x List.mem_cons_self, depth_le fun y hy => h y (List.mem_cons_of_mem _ hy)⟩
theorem depth_lst {l : List PyData} : (PyData.list l).depth = PyData.depthAll l + 1 := by simp [PyData.depth, Nat.add_comm]
theorem depth_tuple {l : List PyData} : (PyData.tuple l).depth = PyData.depthAll l + 1 := by simp [PyData.depth, Nat.add_comm]
end
end Ev

set_option Elab.async false
set_option linter.all false
set_option maxRecDepth 100000
set_option maxHeartbeats 1000000
/-! What a value stands for in the abstract heap; how the heap goes on. -/
namespace Ev
open PySem PySem.Spec PyProof.Rows L2

/-- the facts of the text that stand still -/
structure G where
  P : Program
  w : World
  K : PySem.W.Frag
  mg : Str → Option Value
  base : Heap
  /-- where the defs stand -/
  at_ : Nat → Addr
/-- what is closed for good; where the boxes stand -/
structure Gh where
  F : Hp
  ad : List Addr

/-! ### data stays -/
theorem Same.seqT {K : PySem.W.Frag} {H H' : Hp} {a : Addr} {xs : List V} (e : Same H H') (h : SqT K H a xs) : SqT K H' a xs := by
  rcases h with (h | ⟨o, h⟩) | h
  · exact .inl (.inl (e _ _ h))
  · exact .inl (.inr ⟨o, e _ _ h⟩)
  · exact .inr h
mutual
theorem dp_same {K : PySem.W.Frag} {H H' : Hp} (e : Same H H') : ∀ {v : V} {d : PyData}, Dp K H v d → Dp K H' v d
  | _, _, .non => .non
  | _, _, .bl b => .bl b
  | _, _, .int i => .int i
  | _, _, .str x => .str x
  | _, _, .lst h r => .lst (e.seq h) (dps_same e r)
  | _, _, .tup h r => .tup (Same.seqT e h) (dps_same e r)
theorem dps_same {K : PySem.W.Frag} {H H' : Hp} (e : Same H H') : ∀ {v : List V} {d : List PyData}, DpAll K H v d → DpAll K H' v d
  | _, _, .nil => .nil
  | _, _, .cons h r => .cons (dp_same e h) (dps_same e r)
end
theorem dps_len {K : PySem.W.Frag} {H : Hp} : ∀ {v : List V} {d : List PyData}, DpAll K H v d → v.length = d.length
  | _, _, .nil => rfl
  | _, _, .cons _ r => by rw [List.length_cons, List.length_cons, dps_len r]
theorem dps_get {K : PySem.W.Frag} {H : Hp} : ∀ {v : List V} {d : List PyData}, DpAll K H v d → ∀ {i : Nat} {x : PyData}, d[i]? = some x → ∃ u, v[i]? = some u ∧ Dp K H u x
  | _, _, .nil, _, _, h => by simp at h
  | _, _, .cons p r, 0, _, h => by simp at h; subst h; exact ⟨_, rfl, p⟩
  | _, _, .cons p r, i + 1, _, h => by
    obtain ⟨u, h1, h2⟩ := dps_get r (i := i) (by simpa using h)
    exact ⟨u, by simpa using h1, h2⟩
theorem dps_getV {K : PySem.W.Frag} {H : Hp} : ∀ {v : List V} {d : List PyData}, DpAll K H v d → ∀ {i : Nat} {x : V}, v[i]? = some x → ∃ u, d[i]? = some u ∧ Dp K H x u
  | _, _, .nil, _, _, h => by simp at h
  | _, _, .cons p r, 0, _, h => by simp at h; subst h; exact ⟨_, rfl, p⟩
  | _, _, .cons p r, i + 1, _, h => by
    obtain ⟨u, h1, h2⟩ := dps_getV r (i := i) (by simpa using h)
    exact ⟨u, by simpa using h1, h2⟩
theorem dps_app {K : PySem.W.Frag} {H : Hp} : ∀ {v w : List V} {d e : List PyData}, DpAll K H v d → DpAll K H w e → DpAll K H (v ++ w) (d ++ e)
  | _, _, _, _, .nil, s => s
  | _, _, _, _, .cons p r, s => .cons p (dps_app r s)
theorem dps_one {K : PySem.W.Frag} {H : Hp} {v : V} {d : PyData} (h : Dp K H v d) : DpAll K H [v] [d] := .cons h .nil
theorem dps_drop {K : PySem.W.Frag} {H : Hp} : ∀ (n : Nat) {v : List V} {d : List PyData}, DpAll K H v d → DpAll K H (v.drop n) (d.drop n)
  | 0, _, _, r => r
  | _ + 1, _, _, .nil => .nil
  | n + 1, _, _, .cons _ r => dps_drop n r
theorem dps_take {K : PySem.W.Frag} {H : Hp} : ∀ (n : Nat) {v : List V} {d : List PyData}, DpAll K H v d → DpAll K H (v.take n) (d.take n)
  | 0, _, _, _ => .nil
  | _ + 1, _, _, .nil => .nil
  | n + 1, _, _, .cons p r => .cons p (dps_take n r)
theorem dps_rev {K : PySem.W.Frag} {H : Hp} : ∀ {v : List V} {d : List PyData}, DpAll K H v d → DpAll K H v.reverse d.reverse
  | _, _, .nil => .nil
  | _, _, .cons p r => by
    rw [List.reverse_cons, List.reverse_cons]
    exact dps_app (dps_rev r) (dps_one p)
theorem dps_cut {K : PySem.W.Frag} {H : Hp} {v : List V} {d : List PyData} (h : DpAll K H v d) (lo hi : Option Int) : DpAll K H (cutV v lo hi) (cutL d lo hi) := by
  unfold cutV cutL
  rw [dps_len h]
  exact dps_take _ (dps_drop _ h)
theorem dps_set {K : PySem.W.Frag} {H : Hp} {x : V} {y : PyData} (q : Dp K H x y) : ∀ {v : List V} {d : List PyData} (i : Nat), DpAll K H v d → DpAll K H (v.set i x) (d.set i y)
  | _, _, _, .nil => .nil
  | _, _, 0, .cons _ r => .cons q r
  | _, _, i + 1, .cons p r => .cons p (dps_set q i r)
theorem dps_erase {K : PySem.W.Frag} {H : Hp} : ∀ {v : List V} {d : List PyData} (i : Nat), DpAll K H v d → DpAll K H (v.eraseIdx i) (d.eraseIdx i)
  | _, _, _, .nil => .nil
  | _, _, 0, .cons _ r => r
  | _, _, i + 1, .cons p r => .cons p (dps_erase i r)
theorem dps_dropLast {K : PySem.W.Frag} {H : Hp} {v : List V} {d : List PyData} (h : DpAll K H v d) : DpAll K H v.dropLast d.dropLast := by
  rw [List.dropLast_eq_take, List.dropLast_eq_take, dps_len h]
  exact dps_take _ h
theorem dps_flat {K : PySem.W.Frag} {H : Hp} {v : List V} {d : List PyData} (h : DpAll K H v d) : ∀ n : Nat, DpAll K H (List.replicate n v).flatten (List.replicate n d).flatten
  | 0 => .nil
  | n + 1 => by
    rw [List.replicate_succ, List.replicate_succ, List.flatten_cons, List.flatten_cons]
    exact dps_app h (dps_flat h n)
theorem dps_ints {K : PySem.W.Frag} {H : Hp} : ∀ {v : List V} {d : List PyData} {ns : List Int}, DpAll K H v d → intsOf d = some ns → v = ns.map V.int
  | _, _, _, .nil, h => by cases h; rfl
  | _, d :: ds, ns, .cons p r, h => by
    cases d <;> simp only [intsOf, reduceCtorEq] at h
    rename_i i
    cases e : intsOf ds with
    | none => rw [e] at h; cases h
    | some ms =>
      rw [e] at h
      cases h
      cases p
      rw [List.map_cons, dps_ints r e]
theorem dps_bools {K : PySem.W.Frag} {H : Hp} : ∀ {v : List V} {d : List PyData} {ns : List Bool}, DpAll K H v d → boolsOf d = some ns → v = ns.map V.bl
  | _, _, _, .nil, h => by cases h; rfl
  | _, d :: ds, ns, .cons p r, h => by
    cases d <;> simp only [boolsOf, reduceCtorEq] at h
    rename_i i
    cases e : boolsOf ds with
    | none => rw [e] at h; cases h
    | some ms =>
      rw [e] at h
      cases h
      cases p
      rw [List.map_cons, dps_bools r e]
theorem dps_strs {K : PySem.W.Frag} {H : Hp} : ∀ {v : List V} {d : List PyData} {ns : List Str}, DpAll K H v d → strsOf d = some ns → v = ns.map V.str
  | _, _, _, .nil, h => by cases h; rfl
  | _, d :: ds, ns, .cons p r, h => by
    cases d <;> simp only [strsOf, reduceCtorEq] at h
    rename_i i
    cases e : strsOf ds with
    | none => rw [e] at h; cases h
    | some ms =>
      rw [e] at h
      cases h
      cases p
      rw [List.map_cons, dps_strs r e]

/-! ### dicts: an object told as a whole -/
def keyDat : Key → PyData
  | .inl i => .int i
  | .inr x => .str x
abbrev known (a : Addr) (o : Obj) : HO := .ext fun h => h.get? a = some o
/-- the dict o at a, its keys and values over F: keys that are numbers and texts, or tuples -/
def DictAt (g : G) (F : Hp) (a : Addr) (o : HO) (kvs : List (PyData × PyData)) : Prop :=
  (∃ xs : List (Key × V), o = .dK xs ∧ Paired (fun (p : PyData × PyData) (q : Key × V) => p.1 = keyDat q.1 ∧ Dp g.K F q.2 p.2) kvs xs) ∨
  (∃ ob, o = known a ob ∧ (a == sysModules) = false ∧ ob.ExactDict ∧ kvs.length ≤ sizeLine ∧ ∃ es ep, ob.data = .dict es ep ∧
     ∃ xs : List (NestedKey × Addr × Value), es.toList = xs.map (entryOfKey (nestedKind g.P g.w)) ∧ (xs.map (·.1)).Nodup ∧
        Paired (fun (p : PyData × PyData) (q : NestedKey × Addr × Value) => p.1 = q.1.data ∧ isTup p.1 = true ∧ q.1.depth ≤ 8 ∧ Dp g.K F (.ref q.2.1) p.1 ∧ ∃ v, RelV v q.2.2 ∧ Dp g.K F v p.2) kvs xs)
theorem DictAt.same {g : G} {F F' : Hp} {a : Addr} {o : HO} {kvs : List (PyData × PyData)} (e : Same F F') (h : DictAt g F a o kvs) : DictAt g F' a o kvs := by
  rcases h with ⟨xs, h1, d⟩ | ⟨ob, h1, h2, h3, h4, es, ep, h5, xs, a, b, c⟩
  · exact .inl ⟨xs, h1, L2.Paired.mapP d fun p q ⟨z, w⟩ => ⟨z, dp_same e w⟩⟩
  · exact .inr ⟨ob, h1, h2, h3, h4, es, ep, h5, xs, a, b, L2.Paired.mapP c fun p q ⟨z1, z2, z3, z4, v, r, w⟩ => ⟨z1, z2, z3, dp_same e z4, v, r, dp_same e w⟩⟩

/-! ### cells -/
/-- what stands at a box -/
def CellOk (g : G) (F H : Hp) (c : Cell) (a : Addr) : Prop :=
  match c.val with
  | .list ds => ∃ vs, H a = some (.lst vs) ∧ DpAll g.K F vs ds ∧ (c.st = .shut → F a = some (.lst vs)) ∧ (c.st ≠ .shut → F a = none)
  | .dict kvs => c.st ≠ .shut ∧ F a = none ∧ ∃ o, H a = some o ∧ DictAt g F a o kvs
  | _ => False
structure Rep (g : G) (gh : Gh) (st : Store) (H : Hp) : Prop where
  sub : Same gh.F H
  len : gh.ad.length = st.length
  nd : gh.ad.Nodup
  cell : ∀ (n : Nat) (c : Cell) (a : Addr), st[n]? = some c → gh.ad[n]? = some a → CellOk g gh.F H c a
def Live (gh : Gh) (st : Store) (a : Addr) : Prop := ∃ (n : Nat) (v : PyData), gh.ad[n]? = some a ∧ st[n]? = some ⟨v, .live⟩
/-- from gh, st, H to gh', st', H' -/
structure Stp (gh gh' : Gh) (st st' : Store) (H H' : Hp) : Prop where
  F : Same gh.F gh'.F
  ad : ∃ m, gh'.ad = gh.ad ++ m
  keep : ∀ (a : Addr) (o : HO), H a = some o → ¬ Live gh st a → H' a = some o
  newF : ∀ (a : Addr) (o : HO), H a = some o → a ∉ gh.ad → gh.F a = none → gh'.F a = none
  newA : ∀ (a : Addr) (o : HO), H a = some o → a ∉ gh.ad → a ∉ gh'.ad
  nl : ∀ (n : Nat) (c : Cell), st[n]? = some c → c.st ≠ .live → ∃ c' : Cell, st'[n]? = some c' ∧ c'.st ≠ .live
theorem Stp.refl (gh : Gh) (st : Store) (H : Hp) : Stp gh gh st st H H :=
  ⟨.refl _, ⟨[], by simp⟩, fun _ _ h _ => h, fun _ _ _ _ h => h, fun _ _ _ h => h, fun _ c h q => ⟨c, h, q⟩⟩
theorem ad_get {gh gh' : Gh} {m : List Addr} (e : gh'.ad = gh.ad ++ m) {n : Nat} {a : Addr} (h : gh.ad[n]? = some a) : gh'.ad[n]? = some a := by
  rw [e, List.getElem?_append_left (List.getElem?_eq_some_iff.mp h).1]
  exact h
theorem mem_of_ad {gh : Gh} {n : Nat} {a : Addr} (h : gh.ad[n]? = some a) : a ∈ gh.ad := List.mem_of_getElem? h
theorem get_of_mem {gh : Gh} {a : Addr} (h : a ∈ gh.ad) : ∃ n : Nat, gh.ad[n]? = some a := by
  obtain ⟨n, hn, e⟩ := List.mem_iff_getElem.mp h
  exact ⟨n, by rw [List.getElem?_eq_getElem hn, e]⟩
/-- two places of one address are one -/
theorem Rep.inj {g : G} {gh : Gh} {st : Store} {H : Hp} (R : Rep g gh st H) {n m : Nat} {a : Addr} (h : gh.ad[n]? = some a) (k : gh.ad[m]? = some a) : n = m := by
  obtain ⟨h1, e1⟩ := List.getElem?_eq_some_iff.mp h
  obtain ⟨h2, e2⟩ := List.getElem?_eq_some_iff.mp k
  exact (List.getElem_inj R.nd).mp (e1.trans e2.symm)
theorem Rep.at {g : G} {gh : Gh} {st : Store} {H : Hp} (R : Rep g gh st H) {n : Nat} {c : Cell} (h : st[n]? = some c) : ∃ a, gh.ad[n]? = some a ∧ CellOk g gh.F H c a := by
  have hn := (List.getElem?_eq_some_iff.mp h).1
  rw [← R.len] at hn
  exact ⟨gh.ad[n], List.getElem?_eq_getElem hn, R.cell n c _ h (List.getElem?_eq_getElem hn)⟩
theorem CellOk.there {g : G} {F H : Hp} {c : Cell} {a : Addr} (h : CellOk g F H c a) : ∃ o, H a = some o := by
  unfold CellOk at h
  split at h
  · obtain ⟨vs, h, _⟩ := h
    exact ⟨_, h⟩
  · obtain ⟨_, _, o, h, _⟩ := h
    exact ⟨_, h⟩
  · exact h.elim
theorem Stp.trans {g : G} {gh gh1 gh2 : Gh} {st st1 st2 : Store} {H H1 H2 : Hp} (R : Rep g gh st H) (R1 : Rep g gh1 st1 H1) (a : Stp gh gh1 st st1 H H1) (b : Stp gh1 gh2 st1 st2 H1 H2) : Stp gh gh2 st st2 H H2 := by
  obtain ⟨m1, e1⟩ := a.ad
  obtain ⟨m2, e2⟩ := b.ad
  have nl : ∀ (x : Addr) (o : HO), H x = some o → ¬ Live gh st x → ¬ Live gh1 st1 x := by
    rintro x o hx hl ⟨n, v, h1, h2⟩
    by_cases hm : x ∈ gh.ad
    · obtain ⟨k, hk⟩ := get_of_mem hm
      have ek := R1.inj h1 (ad_get e1 hk)
      subst ek
      have hlt : n < st.length := by rw [← R.len]; exact (List.getElem?_eq_some_iff.mp hk).1
      have hc : st[n]? = some st[n] := List.getElem?_eq_getElem hlt
      by_cases hs : st[n].st = .live
      · exact hl ⟨n, st[n].val, hk, by rw [hc]; cases hq : st[n] with | mk v' s' => rw [hq] at hs; cases hs; rfl⟩
      · obtain ⟨c', h3, h4⟩ := a.nl n _ hc hs
        rw [h2] at h3
        cases h3
        exact h4 rfl
    · exact a.newA x o hx hm (mem_of_ad h1)
  refine ⟨a.F.trans b.F, ⟨m1 ++ m2, by rw [e2, e1, List.append_assoc]⟩, fun x o h q => b.keep x o (a.keep x o h q) (nl x o h q), fun x o h q f => ?_, fun x o h q => ?_, fun n c h q => ?_⟩
  · have hq : ¬ Live gh st x := fun ⟨n, v, h1, _⟩ => q (mem_of_ad h1)
    exact b.newF x o (a.keep x o h hq) (a.newA x o h q) (a.newF x o h q f)
  · have hq : ¬ Live gh st x := fun ⟨n, v, h1, _⟩ => q (mem_of_ad h1)
    exact b.newA x o (a.keep x o h hq) (a.newA x o h q)
  · obtain ⟨c1, h1, q1⟩ := a.nl n c h q
    exact b.nl n c1 h1 q1
theorem CellOk.mono {g : G} {F F' H H' : Hp} {c : Cell} {a : Addr} (h : CellOk g F H c a) (e : Same F F') (hk : ∀ o, H a = some o → H' a = some o) (hf : F a = none → F' a = none) : CellOk g F' H' c a := by
  unfold CellOk at h ⊢
  split at h
  · obtain ⟨vs, h1, h2, h3, h4⟩ := h
    exact ⟨vs, hk _ h1, dps_same e h2, fun z => e _ _ (h3 z), fun z => hf (h4 z)⟩
  · obtain ⟨hs, h1, o, h2, h3⟩ := h
    exact ⟨hs, hf h1, o, hk _ h2, h3.same e⟩
  · exact h.elim
/-- a new object that stays -/
theorem Rep.alloc {g : G} {gh : Gh} {st : Store} {H : Hp} (R : Rep g gh st H) {p : Addr} (hp : H p = none) (o : HO) :
    Rep g ⟨upd gh.F p o, gh.ad⟩ st (upd H p o) ∧ Stp gh ⟨upd gh.F p o, gh.ad⟩ st st H (upd H p o) := by
  have hF : gh.F p = none := R.sub.free hp
  have sF : Same gh.F (upd gh.F p o) := fun b u h => by rw [upd_ne (ne_of_none h hF)]; exact h
  have sH : Same H (upd H p o) := fun b u h => by rw [upd_ne (ne_of_none h hp)]; exact h
  refine ⟨⟨fun b u h => ?_, R.len, R.nd, fun n c a h1 h2 => ?_⟩, ⟨sF, ⟨[], by simp⟩, fun a u h _ => sH a u h, fun a u h _ f => ?_, fun _ _ _ h => h, fun _ c h q => ⟨c, h, q⟩⟩⟩
  · have h : upd gh.F p o b = some u := h
    by_cases hb : b = p
    · subst hb
      rw [upd_same] at h ⊢
      exact h
    · rw [upd_ne hb] at h ⊢
      exact R.sub b u h
  · have q := R.cell n c a h1 h2
    obtain ⟨u, hu⟩ := q.there
    refine q.mono sF (fun o h => sH _ _ h) fun f => ?_
    show upd gh.F p o a = none
    rw [upd_ne (ne_of_none hu hp)]
    exact f
  · show upd gh.F p o a = none
    rw [upd_ne (ne_of_none h hp)]
    exact f
/-- a new object that nothing speaks of -/
theorem Rep.junk {g : G} {gh : Gh} {st : Store} {H H' : Hp} (R : Rep g gh st H) (s : Same H H') : Rep g gh st H' ∧ Stp gh gh st st H H' :=
  ⟨⟨R.sub.trans s, R.len, R.nd, fun n c a h1 h2 => (R.cell n c a h1 h2).mono (.refl _) (fun o h => s _ _ h) fun f => f⟩,
   ⟨.refl _, ⟨[], by simp⟩, fun a u h _ => s a u h, fun _ _ _ _ f => f, fun _ _ _ h => h, fun _ c h q => ⟨c, h, q⟩⟩⟩
/-- a new box -/
theorem Rep.box {g : G} {gh : Gh} {st : Store} {H : Hp} (R : Rep g gh st H) {p : Addr} (hp : H p = none) (o : HO) (v : PyData) (h : CellOk g gh.F (upd H p o) ⟨v, .live⟩ p) :
    Rep g ⟨gh.F, gh.ad ++ [p]⟩ (st ++ [⟨v, .live⟩]) (upd H p o) ∧ Stp gh ⟨gh.F, gh.ad ++ [p]⟩ st (st ++ [⟨v, .live⟩]) H (upd H p o) := by
  have sH : Same H (upd H p o) := fun b u h => by rw [upd_ne (ne_of_none h hp)]; exact h
  have hn : p ∉ gh.ad := fun hm => by
    obtain ⟨n, hn⟩ := get_of_mem hm
    have hlt : n < st.length := by rw [← R.len]; exact (List.getElem?_eq_some_iff.mp hn).1
    obtain ⟨u, hu⟩ := (R.cell n _ p (List.getElem?_eq_getElem hlt) hn).there
    rw [hp] at hu
    cases hu
  refine ⟨⟨R.sub.trans sH, by simp [R.len], ?_, fun n c a h1 h2 => ?_⟩, ⟨.refl _, ⟨[p], rfl⟩, fun a u h _ => sH a u h, fun _ _ _ _ f => f, fun a u hu ha hm => ?_, fun n c hc q => ⟨c, ?_, q⟩⟩⟩
  · refine List.nodup_append.mpr ⟨R.nd, by simp, ?_⟩
    intro a ha b hb e
    rw [List.mem_singleton.mp hb] at e
    exact hn (e ▸ ha)
  · by_cases hlt : n < st.length
    · rw [List.getElem?_append_left hlt] at h1
      have hlt' : n < gh.ad.length := by rw [R.len]; exact hlt
      have h2' : (gh.ad ++ [p])[n]? = some a := h2
      rw [List.getElem?_append_left hlt'] at h2'
      exact (R.cell n c a h1 h2').mono (.refl _) (fun o h => sH _ _ h) fun f => f
    · have e : n = st.length := by
        have q := (List.getElem?_eq_some_iff.mp h1).1
        rw [List.length_append, List.length_singleton] at q
        omega
      subst e
      rw [List.getElem?_append_right (Nat.le_refl _), Nat.sub_self] at h1
      cases h1
      have h2' : (gh.ad ++ [p])[st.length]? = some a := h2
      rw [← R.len, List.getElem?_append_right (Nat.le_refl _), Nat.sub_self] at h2'
      cases h2'
      exact h
  · rcases List.mem_append.mp (show a ∈ gh.ad ++ [p] from hm) with z | z
    · exact ha z
    · rw [List.mem_singleton.mp z, hp] at hu
      cases hu
  · rw [List.getElem?_append_left (List.getElem?_eq_some_iff.mp hc).1]
    exact hc
end Ev

set_option Elab.async false
set_option linter.all false
set_option maxRecDepth 100000
set_option maxHeartbeats 1000000
/-! Changes of boxes; readings of meanings. -/
namespace Ev
open PySem PySem.Spec PyProof.Rows L2

theorem Rep.lt {g : G} {gh : Gh} {st : Store} {H : Hp} (R : Rep g gh st H) {n : Nat} {a : Addr} (h : gh.ad[n]? = some a) : n < st.length := by
  rw [← R.len]
  exact (List.getElem?_eq_some_iff.mp h).1
/-- a box that may change is changed -/
theorem Rep.write {g : G} {gh : Gh} {st : Store} {H : Hp} (R : Rep g gh st H) {n : Nat} {v v' : PyData} {a : Addr} (h : st[n]? = some ⟨v, .live⟩) (ha : gh.ad[n]? = some a) (hF : gh.F a = none) (o : HO)
    (new : CellOk g gh.F (upd H a o) ⟨v', .live⟩ a) : Rep g gh (st.set n ⟨v', .live⟩) (upd H a o) ∧ Stp gh gh st (st.set n ⟨v', .live⟩) H (upd H a o) := by
  have hn := (List.getElem?_eq_some_iff.mp h).1
  have sF : Same gh.F (upd H a o) := fun b u e => by rw [upd_ne (ne_of_none e hF)]; exact R.sub b u e
  refine ⟨⟨sF, by rw [List.length_set]; exact R.len, R.nd, fun m c b h1 h2 => ?_⟩, ⟨.refl _, ⟨[], by simp⟩, fun b u e hl => ?_, fun _ _ _ _ f => f, fun _ _ _ h => h, fun m c h1 q => ?_⟩⟩
  · by_cases e : n = m
    · subst e
      rw [List.getElem?_set_self hn] at h1
      cases h1
      rw [ha] at h2
      cases h2
      exact new
    · rw [List.getElem?_set_ne e] at h1
      have hb : b ≠ a := fun z => e (R.inj ha (z ▸ h2))
      exact (R.cell m c b h1 h2).mono (.refl _) (fun u e => by rw [upd_ne hb]; exact e) fun f => f
  · have hb : b ≠ a := fun z => hl ⟨n, v, by rw [z]; exact ha, h⟩
    rw [upd_ne hb]
    exact e
  · by_cases e : n = m
    · subst e
      rw [h] at h1
      cases h1
      exact (q rfl).elim
    · exact ⟨c, by rw [List.getElem?_set_ne e]; exact h1, q⟩
theorem CellOk.relive {g : G} {F H : Hp} {v : PyData} {s t : CSt} {a : Addr} (h : CellOk g F H ⟨v, s⟩ a) (h1 : s ≠ .shut) (h2 : t ≠ .shut) : CellOk g F H ⟨v, t⟩ a := by
  cases v with
  | list ds =>
    obtain ⟨vs, k1, k2, k3, k4⟩ := h
    exact ⟨vs, k1, k2, fun z => absurd z h2, fun _ => k4 h1⟩
  | dict kvs =>
    obtain ⟨_, k⟩ := h
    exact ⟨h2, k⟩
  | none => exact h
  | bool => exact h
  | int => exact h
  | str => exact h
  | tuple => exact h
/-- a cell's state alone changes: from live to lock -/
theorem Rep.lock {g : G} {gh : Gh} {st : Store} {H : Hp} (R : Rep g gh st H) {n : Nat} {v : PyData} (h : st[n]? = some ⟨v, .live⟩) :
    Rep g gh (st.set n ⟨v, .lock⟩) H ∧ Stp gh gh st (st.set n ⟨v, .lock⟩) H H := by
  have hn := (List.getElem?_eq_some_iff.mp h).1
  refine ⟨⟨R.sub, by rw [List.length_set]; exact R.len, R.nd, fun m c b h1 h2 => ?_⟩, ⟨.refl _, ⟨[], by simp⟩, fun b u e hl => e, fun _ _ _ _ f => f, fun _ _ _ h => h, fun m c h1 q => ?_⟩⟩
  · by_cases e : n = m
    · subst e
      rw [List.getElem?_set_self hn] at h1
      cases h1
      exact (R.cell n _ b h h2).relive (by intro z; cases z) (by intro z; cases z)
    · rw [List.getElem?_set_ne e] at h1
      exact R.cell m c b h1 h2
  · by_cases e : n = m
    · subst e
      rw [h] at h1
      cases h1
      exact (q rfl).elim
    · exact ⟨c, by rw [List.getElem?_set_ne e]; exact h1, q⟩
theorem Rep.unlock1 {g : G} {gh : Gh} {st : Store} {H : Hp} (R : Rep g gh st H) {n : Nat} {v : PyData} (h : st[n]? = some ⟨v, .lock⟩) : Rep g gh (st.set n ⟨v, .live⟩) H := by
  have hn := (List.getElem?_eq_some_iff.mp h).1
  refine ⟨R.sub, by rw [List.length_set]; exact R.len, R.nd, fun m c b h1 h2 => ?_⟩
  by_cases e : n = m
  · subst e
    rw [List.getElem?_set_self hn] at h1
    cases h1
    exact (R.cell n _ b h h2).relive (by intro z; cases z) (by intro z; cases z)
  · rw [List.getElem?_set_ne e] at h1
    exact R.cell m c b h1 h2
theorem Rep.unlock {g : G} {gh : Gh} {H : Hp} : ∀ (ns : List Nat) {st : Store}, Rep g gh st H → Rep g gh (unlock ns st) H
  | [], _, R => R
  | n :: ns, st, R => by
    show Rep g gh (Ev.unlock ns (match st[n]? with
      | some ⟨v, .lock⟩ => st.set n ⟨v, .live⟩
      | _ => st)) H
    refine Rep.unlock ns ?_
    split
    · rename_i v e
      exact R.unlock1 e
    · exact R
/-- a list's box is closed -/
theorem Rep.shut {g : G} {gh : Gh} {st : Store} {H : Hp} (R : Rep g gh st H) {n : Nat} {ds : List PyData} {s : CSt} (h : st[n]? = some ⟨.list ds, s⟩) (hs : s ≠ .lock) :
    ∃ gh' a, gh.ad[n]? = some a ∧ Rep g gh' (st.set n ⟨.list ds, .shut⟩) H ∧ Stp gh gh' st (st.set n ⟨.list ds, .shut⟩) H H ∧ Dp g.K gh'.F (.ref a) (.list ds) ∧ gh'.ad = gh.ad := by
  have hn := (List.getElem?_eq_some_iff.mp h).1
  obtain ⟨a, ha, hc⟩ := R.at h
  obtain ⟨vs, h1, h2, _, _⟩ := hc
  have sF : Same gh.F (upd gh.F a (.lst vs)) := fun b u e => by
    by_cases hb : b = a
    · subst hb
      rw [upd_same]
      have := R.sub _ _ e
      rw [h1] at this
      exact this.symm ▸ rfl
    · rw [upd_ne hb]
      exact e
  refine ⟨⟨upd gh.F a (.lst vs), gh.ad⟩, a, ha, ⟨fun b u e => ?_, by rw [List.length_set]; exact R.len, R.nd, fun m c b k1 k2 => ?_⟩, ⟨sF, ⟨[], by simp⟩, fun b u e hl => e, fun b u e hb f => ?_, fun _ _ _ h => h, fun m c k1 q => ?_⟩, .lst (.inl (.inl upd_same)) (dps_same sF h2), rfl⟩
  · have e : upd gh.F a (.lst vs) b = some u := e
    by_cases hb : b = a
    · subst hb
      rw [upd_same] at e
      rw [h1, e]
    · rw [upd_ne hb] at e
      exact R.sub b u e
  · by_cases e : n = m
    · subst e
      rw [List.getElem?_set_self hn] at k1
      cases k1
      have k2 : gh.ad[n]? = some b := k2
      rw [ha] at k2
      cases k2
      exact ⟨vs, h1, dps_same sF h2, fun _ => upd_same, fun z => absurd rfl z⟩
    · rw [List.getElem?_set_ne e] at k1
      have k2 : gh.ad[m]? = some b := k2
      have hb : b ≠ a := fun z => e (R.inj ha (z ▸ k2))
      refine (R.cell m c b k1 k2).mono sF (fun u e => e) fun f => ?_
      show upd gh.F a (.lst vs) b = none
      rw [upd_ne hb]
      exact f
  · have hb' : b ≠ a := fun z => hb (z ▸ mem_of_ad ha)
    show upd gh.F a (.lst vs) b = none
    rw [upd_ne hb']
    exact f
  · by_cases e : n = m
    · subst e
      exact ⟨_, List.getElem?_set_self hn, by intro z; cases z⟩
    · exact ⟨c, by rw [List.getElem?_set_ne e]; exact k1, q⟩

/-! ### what a value stands for -/
def RW (g : G) (gh : Gh) (w : W) (v : V) : Prop :=
  match w with
  | .d x => Dp g.K gh.F v x
  | .bx n => ∃ a, gh.ad[n]? = some a ∧ v = .ref a
  | .fn i => v = .ref (g.at_ i)
theorem RW.mono {g : G} {gh gh' : Gh} {st st' : Store} {H H' : Hp} {w : W} {v : V} (s : Stp gh gh' st st' H H') (h : RW g gh w v) : RW g gh' w v := by
  cases w with
  | d x => exact dp_same s.F h
  | bx n =>
    obtain ⟨a, h1, h2⟩ := h
    obtain ⟨m, e⟩ := s.ad
    exact ⟨a, ad_get e h1, h2⟩
  | fn i => exact h
def RWs (g : G) (gh : Gh) : List W → List V → Prop
  | [], [] => True
  | w :: ws, v :: vs => RW g gh w v ∧ RWs g gh ws vs
  | _, _ => False
theorem RWs.mono {g : G} {gh gh' : Gh} {st st' : Store} {H H' : Hp} (s : Stp gh gh' st st' H H') : ∀ {ws : List W} {vs : List V}, RWs g gh ws vs → RWs g gh' ws vs
  | [], [], _ => trivial
  | _ :: _, _ :: _, ⟨h, r⟩ => ⟨h.mono s, RWs.mono s r⟩
theorem RWs.len {g : G} {gh : Gh} : ∀ {ws : List W} {vs : List V}, RWs g gh ws vs → ws.length = vs.length
  | [], [], _ => rfl
  | _ :: _, _ :: _, ⟨_, r⟩ => by rw [List.length_cons, List.length_cons, RWs.len r]
theorem RWs.get {g : G} {gh : Gh} : ∀ {ws : List W} {vs : List V}, RWs g gh ws vs → ∀ {i : Nat} {w : W}, ws[i]? = some w → ∃ v, vs[i]? = some v ∧ RW g gh w v
  | [], [], _, _, _, h => by simp at h
  | _ :: _, _ :: _, ⟨p, _⟩, 0, _, h => by simp at h; subst h; exact ⟨_, rfl, p⟩
  | _ :: _, _ :: _, ⟨_, r⟩, i + 1, _, h => by
    obtain ⟨v, h1, h2⟩ := RWs.get r (i := i) (by simpa using h)
    exact ⟨v, by simpa using h1, h2⟩
/-- names' values -/
structure RE (g : G) (gh : Gh) (ρ : Env) (σ : L2.St) : Prop where
  len : ρ.length = σ.length
  val : ∀ (i : Nat) (w : W), ρ[i]? = some (some w) → ∃ v, σ[i]? = some (some v) ∧ RW g gh w v
theorem RE.mono {g : G} {gh gh' : Gh} {st st' : Store} {H H' : Hp} {ρ : Env} {σ : L2.St} (s : Stp gh gh' st st' H H') (h : RE g gh ρ σ) : RE g gh' ρ σ :=
  ⟨h.len, fun i w e => by
    obtain ⟨v, h1, h2⟩ := h.val i w e
    exact ⟨v, h1, h2.mono s⟩⟩
theorem RE.set {g : G} {gh : Gh} {ρ : Env} {σ : L2.St} (h : RE g gh ρ σ) (i : Nat) {w : W} {v : V} (r : RW g gh w v) : RE g gh (ρ.set i (some w)) (σ.set i (some v)) := by
  refine ⟨by rw [List.length_set, List.length_set]; exact h.len, fun j u e => ?_⟩
  by_cases hj : i = j
  · subst hj
    have hi : i < ρ.length := by
      have := (List.getElem?_eq_some_iff.mp e).1
      rwa [List.length_set] at this
    rw [List.getElem?_set_self hi] at e
    cases e
    exact ⟨v, List.getElem?_set_self (by rw [← h.len]; exact hi), r⟩
  · rw [List.getElem?_set_ne hj] at e
    rw [List.getElem?_set_ne hj]
    exact h.val j u e
theorem RE.wipe {g : G} {gh : Gh} {ρ : Env} {σ : L2.St} (h : RE g gh ρ σ) : ∀ vs : List Nat, RE g gh (wipeE ρ vs) (wipe σ vs)
  | [] => h
  | i :: vs => by
    have ih := RE.wipe h vs
    refine ⟨by show ((wipeE ρ vs).set i none).length = ((L2.wipe σ vs).set i none).length; rw [List.length_set, List.length_set]; exact ih.len, fun j u e => ?_⟩
    have e : ((wipeE ρ vs).set i none)[j]? = some (some u) := e
    by_cases hj : i = j
    · subst hj
      by_cases hi : i < (wipeE ρ vs).length
      · rw [List.getElem?_set_self hi] at e
        cases e
      · rw [List.getElem?_eq_none (by simpa using hi)] at e
        cases e
    · rw [List.getElem?_set_ne hj] at e
      show ∃ v, ((L2.wipe σ vs).set i none)[j]? = _ ∧ _
      rw [List.getElem?_set_ne hj]
      exact ih.val j u e

/-! ### readings -/
variable {g : G} {cl : Calls}
theorem bind_ok {α β : Type} {f : M α} {k : α → M β} {st st' : Store} {b : β} (h : M.bind f k st = .ok b st') : ∃ a st1, f st = .ok a st1 ∧ k a st1 = .ok b st' := by
  unfold M.bind at h
  cases e : f st with
  | ok a st1 =>
    rw [e] at h
    exact ⟨a, st1, rfl, h⟩
  | err x s =>
    rw [e] at h
    cases h
  | no =>
    rw [e] at h
    cases h
theorem pure_ok {α : Type} {a b : α} {st st' : Store} (h : M.pure a st = .ok b st') : b = a ∧ st' = st := by
  cases h
  exact ⟨rfl, rfl⟩
theorem opt_ok {α : Type} {o : Option α} {b : α} {st st' : Store} (h : M.ofOpt o st = .ok b st') : o = some b ∧ st' = st := by
  cases o with
  | none => cases h
  | some a => cases h; exact ⟨rfl, rfl⟩
/-- a meaning's reading -/
def tX {α : Type} (g : G) (cl : Calls) (Rel : Gh → Hp → α → V → Prop) (m : Sm α) : TE := fun σ H Q => ∃ ρ gh st w st', RE g gh ρ σ ∧ Rep g gh st H ∧ m cl ρ st = .ok w st' ∧
  ∀ v gh' H', Stp gh gh' st st' H H' → Rep g gh' st' H' → Rel gh' H' w v → Q v H'
def tD (g : G) (cl : Calls) (m : Sm W) : TE := tX g cl (fun gh _ w v => RW g gh w v) m
def tB (g : G) (cl : Calls) (m : Sm Bool) : TT := fun σ H Q => ∃ ρ gh st w st', RE g gh ρ σ ∧ Rep g gh st H ∧ m cl ρ st = .ok w st' ∧
  ∀ gh' H', Stp gh gh' st st' H H' → Rep g gh' st' H' → Q w H'
/-- a list of values -/
def tWs (g : G) (cl : Calls) (m : Sm (List W)) : TA := fun σ H Q => ∃ ρ gh st ws st', RE g gh ρ σ ∧ Rep g gh st H ∧ m cl ρ st = .ok ws st' ∧
  ∀ vs gh' H', Stp gh gh' st st' H H' → Rep g gh' st' H' → RWs g gh' ws vs → Q vs H'
def tDs (g : G) (cl : Calls) (m : Sm (List PyData)) : TA := fun σ H Q => ∃ ρ gh st ws st', RE g gh ρ σ ∧ Rep g gh st H ∧ m cl ρ st = .ok ws st' ∧
  ∀ vs gh' H', Stp gh gh' st st' H H' → Rep g gh' st' H' → DpAll g.K gh'.F vs ws → Q vs H'
/-- a new list or dict: its object is still to be laid -/
def tN (g : G) (cl : Calls) (m : Sm PyData) : TE := fun σ H Q => ∃ ρ gh st d st', RE g gh ρ σ ∧ Rep g gh st H ∧ m cl ρ st = .ok d st' ∧
  ∀ p o gh' H', Stp gh gh' st st' H H' → Rep g gh' st' H' → H' p = none → CellOk g gh'.F (upd H' p o) ⟨d, .live⟩ p → Q (.ref p) (upd H' p o)
/-- a statement -/
def EndOk (g : G) (D : Ends) (gh' : Gh) (H' : Hp) (σ' : L2.St) : Fl → Prop
  | .nx => D.nx σ' H'
  | .brk => D.bk σ' H'
  | .cont => D.ct σ' H'
  | .ret w => ∀ v, RW g gh' w v → D.rt v H'
def tS (g : G) (cl : Calls) (m : Ss) : TS := fun D σ H => ∃ ρ gh st r st', RE g gh ρ σ ∧ Rep g gh st H ∧ m cl ρ st = .ok r st' ∧
  ∀ σ' gh' H', Stp gh gh' st st' H H' → Rep g gh' st' H' → RE g gh' r.2 σ' → EndOk g D gh' H' σ' r.1

/-- what a value stands for as the heap is now -/
def Now (g : G) (gh : Gh) (H : Hp) (v : V) (a : PyData) : Prop :=
  Dp g.K gh.F v a ∨ ∃ p, v = .ref p ∧ ((∃ ds vs, a = .list ds ∧ H p = some (.lst vs) ∧ DpAll g.K gh.F vs ds) ∨
    (∃ kvs o, a = .dict kvs ∧ H p = some o ∧ DictAt g gh.F p o kvs))
theorem deref_now {gh : Gh} {st st' : Store} {H : Hp} {w : W} {v : V} {a : PyData} (R : Rep g gh st H) (h : RW g gh w v) (e : deref w st = .ok a st') : st' = st ∧ Now g gh H v a := by
  cases w with
  | d x =>
    obtain ⟨rfl, rfl⟩ := pure_ok e
    exact ⟨rfl, .inl h⟩
  | fn i => cases e
  | bx n =>
    obtain ⟨p, h1, rfl⟩ := h
    have hlt := R.lt h1
    have hc : st[n]? = some st[n] := List.getElem?_eq_getElem hlt
    simp only [deref, hc] at e
    cases e
    refine ⟨rfl, .inr ⟨p, rfl, ?_⟩⟩
    have q := R.cell n _ p hc h1
    unfold CellOk at q
    split at q
    · rename_i ds e1
      obtain ⟨vs, q1, q2, _⟩ := q
      exact .inl ⟨ds, vs, e1, q1, q2⟩
    · rename_i kvs e1
      obtain ⟨_, _, o, q1, q2⟩ := q
      exact .inr ⟨kvs, o, e1, q1, q2⟩
    · exact q.elim
theorem toD_ok {gh : Gh} {st st' : Store} {H : Hp} {w : W} {v : V} {x : PyData} (R : Rep g gh st H) (h : RW g gh w v) (e : toD w st = .ok x st') :
    ∃ gh', Stp gh gh' st st' H H ∧ Rep g gh' st' H ∧ Dp g.K gh'.F v x := by
  cases w with
  | d y =>
    obtain ⟨rfl, rfl⟩ := pure_ok e
    exact ⟨gh, .refl _ _ _, R, h⟩
  | fn i => cases e
  | bx n =>
    obtain ⟨p, h1, rfl⟩ := h
    cases hc : st[n]? with
    | none => simp only [toD, hc] at e; cases e
    | some c =>
      obtain ⟨cv, cs⟩ := c
      cases cv with
      | list ds =>
        have go : ∀ (hs : cs ≠ .lock), ∃ gh', Stp gh gh' st (st.set n ⟨.list ds, .shut⟩) H H ∧ Rep g gh' (st.set n ⟨.list ds, .shut⟩) H ∧ Dp g.K gh'.F (.ref p) (.list ds) := fun hs => by
          obtain ⟨gh', a, k1, k2, k3, k4, _⟩ := R.shut hc hs
          rw [h1] at k1
          cases k1
          exact ⟨gh', k3, k2, k4⟩
        cases cs with
        | lock => simp only [toD, hc] at e; cases e
        | live =>
          simp only [toD, hc] at e
          cases e
          exact go (by intro z; cases z)
        | shut =>
          simp only [toD, hc] at e
          cases e
          exact go (by intro z; cases z)
      | none => simp only [toD, hc] at e; cases e
      | bool => simp only [toD, hc] at e; cases e
      | int => simp only [toD, hc] at e; cases e
      | str => simp only [toD, hc] at e; cases e
      | tuple => simp only [toD, hc] at e; cases e
      | dict => simp only [toD, hc] at e; cases e
theorem argW_ok {gh : Gh} {st st' : Store} {H : Hp} {w u : W} {v : V} (R : Rep g gh st H) (h : RW g gh w v) (e : argW w st = .ok u st') : st' = st ∧ RW g gh u v := by
  cases w with
  | d y =>
    obtain ⟨rfl, rfl⟩ := pure_ok e
    exact ⟨rfl, h⟩
  | fn i =>
    obtain ⟨rfl, rfl⟩ := pure_ok e
    exact ⟨rfl, h⟩
  | bx n =>
    obtain ⟨p, h1, rfl⟩ := h
    cases hc : st[n]? with
    | none => simp only [argW, hc] at e; cases e
    | some c =>
      obtain ⟨cv, cs⟩ := c
      cases cs with
      | lock =>
        simp only [argW, hc] at e
        cases e
        exact ⟨rfl, p, h1, rfl⟩
      | live =>
        simp only [argW, hc] at e
        cases e
        exact ⟨rfl, p, h1, rfl⟩
      | shut =>
        simp only [argW, hc] at e
        cases e
        refine ⟨rfl, ?_⟩
        have q := R.cell n _ p hc h1
        show Dp g.K gh.F (.ref p) cv
        cases cv with
        | list ds =>
          obtain ⟨vs, q1, q2, q3, _⟩ := q
          exact .lst (.inl (.inl (q3 rfl))) q2
        | dict kvs => exact absurd rfl q.1
        | none => exact q.elim
        | bool => exact q.elim
        | int => exact q.elim
        | str => exact q.elim
        | tuple => exact q.elim
end Ev

set_option Elab.async false
set_option linter.all false
set_option maxRecDepth 100000
set_option maxHeartbeats 1000000
/-! Operations on data keep to the model's rules. -/
namespace Ev
open PySem PySem.Spec PyProof.Rows L2

theorem PE.to {X : Cx} {e : Expr} {t t' : TE} (h : PE X e t) (hi : ∀ σ H Q, t' σ H Q → t σ H Q) : PE X e t' := ⟨fun pins s σ H Q I hw => h.run pins s σ H Q I (hi σ H Q hw)⟩
structure Ops (g : G) (X : Cx) : Prop where
  K : X.K = g.K
  P : X.prog = g.P
  w : X.w = g.w
  hu : X.A.units + 64 < cLine
  calm : X.calm = true
variable {g : G} {gh : Gh} {H : Hp} {v : V}

/-! ### what is known of a value by its data -/
theorem now_dp (R : Same gh.F H) {a : PyData} (n : Now g gh H v a) (h : ∀ kvs, a ≠ .dict kvs) : Dp g.K H v a := by
  rcases n with n | ⟨p, rfl, ⟨ds, vs, rfl, h1, h2⟩ | ⟨kvs, o, rfl, _⟩⟩
  · exact dp_same R n
  · exact .lst (.inl (.inl h1)) (dps_same R h2)
  · exact (h _ rfl).elim
theorem now_int {i : Int} (n : Now g gh H v (.int i)) : v = .int i := by
  rcases n with n | ⟨p, rfl, ⟨ds, vs, h, _⟩ | ⟨kvs, o, h, _⟩⟩
  · cases n; rfl
  · cases h
  · cases h
theorem now_bool {i : Bool} (n : Now g gh H v (.bool i)) : v = .bl i := by
  rcases n with n | ⟨p, rfl, ⟨ds, vs, h, _⟩ | ⟨kvs, o, h, _⟩⟩
  · cases n; rfl
  · cases h
  · cases h
theorem now_str {i : Str} (n : Now g gh H v (.str i)) : v = .str i := by
  rcases n with n | ⟨p, rfl, ⟨ds, vs, h, _⟩ | ⟨kvs, o, h, _⟩⟩
  · cases n; rfl
  · cases h
  · cases h
theorem now_none (n : Now g gh H v .none) : v = .non := by
  rcases n with n | ⟨p, rfl, ⟨ds, vs, h, _⟩ | ⟨kvs, o, h, _⟩⟩
  · cases n; rfl
  · cases h
  · cases h
theorem now_list (R : Same gh.F H) {ds : List PyData} (n : Now g gh H v (.list ds)) : ∃ p vs, v = .ref p ∧ SqL g.K H p vs ∧ DpAll g.K gh.F vs ds := by
  rcases n with n | ⟨p, rfl, ⟨ds, vs, h, h1, h2⟩ | ⟨kvs, o, h, _⟩⟩
  · cases n with
    | lst h r => exact ⟨_, _, rfl, R.seq h, r⟩
  · cases h
    exact ⟨p, vs, rfl, .inl (.inl h1), h2⟩
  · cases h
theorem now_tup (R : Same gh.F H) {ds : List PyData} (n : Now g gh H v (.tuple ds)) : ∃ p vs, v = .ref p ∧ SqT g.K H p vs ∧ SqT g.K gh.F p vs ∧ DpAll g.K gh.F vs ds := by
  rcases n with n | ⟨p, rfl, ⟨ds, vs, h, h1, h2⟩ | ⟨kvs, o, h, _⟩⟩
  · cases n with
    | tup h r => exact ⟨_, _, rfl, Same.seqT R h, h, r⟩
  · cases h
  · cases h
theorem now_dict (R : Same gh.F H) {kvs : List (PyData × PyData)} (n : Now g gh H v (.dict kvs)) : ∃ p o, v = .ref p ∧ H p = some o ∧ DictAt g gh.F p o kvs := by
  rcases n with n | ⟨p, rfl, ⟨ds, vs, h, h1, h2⟩ | ⟨kvs, o, h, h1, h2⟩⟩
  · cases n
  · cases h
  · cases h
    exact ⟨p, o, rfl, h1, h2⟩
mutual
theorem dp_plain {K : PySem.W.Frag} {H : Hp} : ∀ {v : V} {d : PyData}, Dp K H v d → d.plain = true
  | _, _, .non => rfl
  | _, _, .bl _ => rfl
  | _, _, .int _ => rfl
  | _, _, .str _ => rfl
  | _, _, .lst _ r => by simp only [PyData.plain]; exact dps_plain r
  | _, _, .tup _ r => by simp only [PyData.plain]; exact dps_plain r
theorem dps_plain {K : PySem.W.Frag} {H : Hp} : ∀ {v : List V} {d : List PyData}, DpAll K H v d → PyData.plainAll d = true
  | _, _, .nil => rfl
  | _, _, .cons h r => by simp only [PyData.plainAll, dp_plain h, dps_plain r, Bool.and_self]
end
theorem depth_list (xs : List PyData) : (PyData.list xs).depth = PyData.depthAll xs + 1 := by simp only [PyData.depth]
theorem depth_tup (xs : List PyData) : (PyData.tuple xs).depth = PyData.depthAll xs + 1 := by simp only [PyData.depth]
theorem shallow_iff {a : PyData} : shallow a = true ↔ a.depth ≤ 60 := by unfold shallow; exact decide_eq_true_iff

/-! ### operators -/
/-- what an operation's reading owes -/
def OpOk (g : G) (k : PyData → PyData → Option PyData) (r : R2) : Prop :=
  ∀ (gh : Gh) (st : Store) (H : Hp) (a b c : PyData) (x y : V) (Q : VK), Rep g gh st H → Now g gh H x a → Now g gh H y b → k a b = some c →
    (∀ v gh' H', Stp gh gh' st st H H' → Rep g gh' st H' → Dp g.K gh'.F v c → Q v H') → r x y H Q
/-- .. of values -/
theorem t_e2 {cl : Calls} {k : PyData → PyData → Option PyData} {r : R2} {f h : Sm W} {σ : L2.St} {H : Hp} {Q : VK} (hr : OpOk g k r) (t : tD g cl (e2 f h k) σ H Q) : tOp r (tD g cl f) (tD g cl h) σ H Q := by
  obtain ⟨ρ, gh, st, w, st', re, R, e, q⟩ := t
  obtain ⟨x, st1, e1, e⟩ := bind_ok e
  obtain ⟨y, st2, e2, e⟩ := bind_ok e
  obtain ⟨a, s3, e3, e⟩ := bind_ok e
  obtain ⟨b, s4, e4, e⟩ := bind_ok e
  obtain ⟨c, s5, e5, e⟩ := bind_ok e
  obtain ⟨rfl, rfl⟩ := pure_ok e
  obtain ⟨k5, e6⟩ := opt_ok e5
  subst e6
  refine ⟨ρ, gh, st, x, st1, re, R, e1, fun v gh1 H1 S1 R1 r1 => ⟨ρ, gh1, st1, y, st2, re.mono S1, R1, e2, fun u gh2 H2 S2 R2 r2 => ?_⟩⟩
  obtain ⟨rfl, n1⟩ := deref_now R2 (r1.mono S2) e3
  obtain ⟨rfl, n2⟩ := deref_now R2 r2 e4
  exact hr gh2 _ H2 a b c v u Q R2 n1 n2 k5 fun z gh3 H3 S3 R3 d => q z gh3 H3 ((S1.trans R R1 S2).trans R R2 S3) R3 d
theorem OpOk.or {k : PyData → PyData → Option PyData} {r r' : R2} (P : PyData → PyData → Prop)
    (h : OpOk g (fun a b => k a b) fun x y H Q => r x y H Q ∨ r' x y H Q) : OpOk g k fun x y H Q => r x y H Q ∨ r' x y H Q := h
/-- the answer is a value that stands -/
theorem ret_old {gh : Gh} {st : Store} {H : Hp} {c : PyData} {v : V} {Q : VK} (R : Rep g gh st H) (d : Dp g.K gh.F v c) (q : ∀ v gh' H', Stp gh gh' st st H H' → Rep g gh' st H' → Dp g.K gh'.F v c → Q v H') : Q v H :=
  q v gh H (.refl _ _ _) R d
theorem ret_tup {gh : Gh} {st : Store} {H : Hp} {ds : List PyData} {vs : List V} {Q : VK} (R : Rep g gh st H) (d : DpAll g.K gh.F vs ds) (q : ∀ v gh' H', Stp gh gh' st st H H' → Rep g gh' st H' → Dp g.K gh'.F v (.tuple ds) → Q v H') :
    ∀ p, H p = none → Q (.ref p) (upd H p (.tup vs)) := fun p hp => by
  obtain ⟨R', S⟩ := R.alloc hp (.tup vs)
  exact q _ _ _ S R' (.tup (.inl (.inl upd_same)) (dps_same S.F d))
theorem ret_lst {gh : Gh} {st : Store} {H : Hp} {ds : List PyData} {vs : List V} {Q : VK} (R : Rep g gh st H) (d : DpAll g.K gh.F vs ds) (q : ∀ v gh' H', Stp gh gh' st st H H' → Rep g gh' st H' → Dp g.K gh'.F v (.list ds) → Q v H') :
    ∀ p, H p = none → Q (.ref p) (upd H p (.lst vs)) := fun p hp => by
  obtain ⟨R', S⟩ := R.alloc hp (.lst vs)
  exact q _ _ _ S R' (.lst (.inl (.inl upd_same)) (dps_same S.F d))

/-- list + list, whichever lists -/
def rCatL (K : PySem.W.Frag) : R2 := fun x y H Q => ∃ l b xs zs, x = .ref l ∧ y = .ref b ∧ SqL K H l xs ∧ SqL K H b zs ∧ xs.length + zs.length ≤ sizeLine ∧ ∀ p, H p = none → Q (.ref p) (upd H p (.lst (xs ++ zs)))
theorem op_catL {X : Cx} : OpR X (binaryOp .Add) (rCatL X.K) := by
  intro pins s σ H x y v u Q I rx ry h
  obtain ⟨l, b, xs, zs, rfl, rfl, hH, hB, hz, q⟩ := h
  cases rx
  cases ry
  obtain ⟨its, r, ⟨⟨cls, dd, data, sl⟩, n, e, hc, hd, hs⟩, _⟩ := I.list hH
  obtain ⟨its2, r2, ⟨⟨cls2, dd2, data2, sl2⟩, n2, e2, hc2, hd2, hs2⟩, _⟩ := I.list hB
  simp only at hc hd hs hc2 hd2 hs2
  subst hc hd hs hc2 hd2 hs2
  have ea : its.toArray ++ its2.toArray = (its ++ its2).toArray := by simp
  have hl1 := r.length
  have hl2 := r2.length
  refine concat_meets ⟨_, e, rfl⟩ ⟨_, e2, rfl⟩ noFill_list_add seq_list_add PySem.F.slot_list_add PySem.F.entry_list_add (PySem.F.args_list_add_2 _ _)
    (list_addW l b its.toArray its2.toArray n n2 none none sl sl2 (by rw [List.size_toArray, List.size_toArray]; omega)) ⟨e, e2, ?_⟩
  rw [ea]
  exact ⟨.ref _, _, I.lnew (t' := s.toks) (r.append r2) (by rw [List.length_append]; omega), rfl, q _ I.fresh⟩
theorem intOp {g' : Int → Int → V} {k : PyData → PyData → Option PyData} {C : Int → Int → Prop}
    (hk : ∀ a b c, k a b = some c → ∃ i j z, a = .int i ∧ b = .int j ∧ C i j ∧ g' i j = .int z ∧ c = .int z) : OpOk g k (rI C g') := by
  intro gh st H a b c x y Q R n1 n2 e q
  obtain ⟨i, j, z, rfl, rfl, hC, e1, rfl⟩ := hk a b c e
  exact ⟨i, j, now_int n1, now_int n2, hC, by rw [e1]; exact ret_old R (.int z) q⟩
theorem mulOk_iff {i j : Int} (h : mulOk i j = true) : CMul i j := by
  unfold mulOk at h
  simp only [Bool.or_eq_true, Bool.and_eq_true, decide_eq_true_eq] at h
  exact h
section
variable {X : Cx}
theorem ok_sub : OpOk g (binD .Sub) (rI (fun _ _ => True) fun i j => .int (i - j)) := intOp fun a b c h => by
  cases a <;> cases b <;> simp only [binD, reduceCtorEq] at h
  exact ⟨_, _, _, rfl, rfl, trivial, rfl, (Option.some.inj h).symm⟩
theorem op_subT : OpR X (binaryOp .Sub) (rI (fun _ _ => True) fun i j => .int (i - j)) := opI fun _ _ _ _ _ _ _ _ q => sub_int q
theorem ok_fdiv : OpOk g (binD .FloorDiv) (rI CDivW fun i j => .int (i / j)) := intOp fun a b c h => by
  cases a <;> cases b <;> simp only [binD, reduceCtorEq] at h
  split at h
  · rename_i h1
    exact ⟨_, _, _, rfl, rfl, L2.wide_div (b := 200) h1.1 h1.2 (by decide) (by decide), rfl, (Option.some.inj h).symm⟩
  · cases h
theorem ok_mod : OpOk g (binD .Mod) (rI (fun _ j => 0 < j) fun i j => .int (i % j)) := intOp fun a b c h => by
  cases a <;> cases b <;> simp only [binD, reduceCtorEq] at h
  split at h
  · rename_i h1
    exact ⟨_, _, _, rfl, rfl, h1, rfl, (Option.some.inj h).symm⟩
  · cases h
theorem ok_pow : OpOk g (binD .Pow) (rI CPow fun i j => .int (i ^ j.toNat)) := intOp fun a b c h => by
  cases a <;> cases b <;> simp only [binD, reduceCtorEq] at h
  split at h
  · rename_i h1
    exact ⟨_, _, _, rfl, rfl, h1, rfl, (Option.some.inj h).symm⟩
  · cases h
theorem ok_shl : OpOk g (binD .LShift) (rI CPow fun i j => .int (i * 2 ^ j.toNat)) := intOp fun a b c h => by
  cases a <;> cases b <;> simp only [binD, reduceCtorEq] at h
  split at h
  · rename_i h1
    exact ⟨_, _, _, rfl, rfl, h1, rfl, (Option.some.inj h).symm⟩
  · cases h
theorem ok_shr : OpOk g (binD .RShift) (rI (fun _ j => 0 ≤ j) fun i j => .int (i / 2 ^ j.toNat)) := intOp fun a b c h => by
  cases a <;> cases b <;> simp only [binD, reduceCtorEq] at h
  split at h
  · rename_i h1
    exact ⟨_, _, _, rfl, rfl, h1, rfl, (Option.some.inj h).symm⟩
  · cases h
theorem ok_and : OpOk g (binD .BitAnd) (rI (fun _ _ => True) fun i j => .int (Builtin.bitAnd i j)) := intOp fun a b c h => by
  cases a <;> cases b <;> simp only [binD, reduceCtorEq] at h
  exact ⟨_, _, _, rfl, rfl, trivial, rfl, (Option.some.inj h).symm⟩
theorem ok_or : OpOk g (binD .BitOr) (rI (fun _ _ => True) fun i j => .int (Builtin.bitOr i j)) := intOp fun a b c h => by
  cases a <;> cases b <;> simp only [binD, reduceCtorEq] at h
  exact ⟨_, _, _, rfl, rfl, trivial, rfl, (Option.some.inj h).symm⟩
theorem ok_xor : OpOk g (binD .BitXor) (rI (fun _ _ => True) fun i j => .int (Builtin.bitXor i j)) := intOp fun a b c h => by
  cases a <;> cases b <;> simp only [binD, reduceCtorEq] at h
  exact ⟨_, _, _, rfl, rfl, trivial, rfl, (Option.some.inj h).symm⟩
theorem rI_of0 {f : Value → Value → Sem Value} {g' : Int → Int → V} (h : OpR X f (rI0 g')) : OpR X f (rI (fun _ _ => True) g') := by
  intro pins s σ H x y v u Q I rx ry q
  obtain ⟨i, j, e1, e2, _, q⟩ := q
  exact h pins s σ H x y v u Q I rx ry ⟨i, j, e1, e2, q⟩
/-- + -/
def rAddAny (K : PySem.W.Frag) : R2 := fun x y H Q => rI (fun _ _ => True) (fun i j => .int (i + j)) x y H Q ∨ (∃ i j, x = .str i ∧ y = .str j ∧ i.length + j.length ≤ sizeLine ∧ Q (.str (i ++ j)) H) ∨ rCatL K x y H Q ∨ rCatA K x y H Q
theorem op_addAny : OpR X (binaryOp .Add) (rAddAny X.K) := (rI_of0 op_add).or (op_add_str.or (op_catL.or op_catA))
theorem ok_add : OpOk g (binD .Add) (rAddAny g.K) := by
  intro gh st H a b c x y Q R n1 n2 e q
  cases a <;> cases b <;> simp only [binD, reduceCtorEq] at e
  · cases e
    exact .inl ⟨_, _, now_int n1, now_int n2, trivial, ret_old R (.int _) q⟩
  · split at e
    · cases e
      exact .inr (.inl ⟨_, _, now_str n1, now_str n2, by assumption, ret_old R (.str _) q⟩)
    · cases e
  · split at e
    · cases e
      obtain ⟨p, vs, rfl, h1, h2⟩ := now_list R.sub n1
      obtain ⟨p2, vs2, rfl, h3, h4⟩ := now_list R.sub n2
      exact .inr (.inr (.inl ⟨_, _, _, _, rfl, rfl, h1, h3, by rw [dps_len h2, dps_len h4]; assumption, ret_lst R (dps_app h2 h4) q⟩))
    · cases e
  · split at e
    · cases e
      obtain ⟨p, vs, rfl, h1, h1', h2⟩ := now_tup R.sub n1
      obtain ⟨p2, vs2, rfl, h3, h3', h4⟩ := now_tup R.sub n2
      refine .inr (.inr (.inr ⟨_, _, _, _, rfl, rfl, h1, h3, by rw [dps_len h2, dps_len h4]; assumption, fun z => ?_, fun _ z => ?_, fun _ _ => ret_tup R (dps_app h2 h4) q⟩))
      · subst z
        cases h2
        exact ret_old R (.tup h3' h4) q
      · subst z
        cases h4
        rw [List.append_nil] at q
        exact ret_old R (.tup h1' h2) q
    · cases e
end
end Ev

set_option Elab.async false
set_option linter.all false
set_option maxRecDepth 100000
set_option maxHeartbeats 1000000
/-! Comparisons, items, slices. -/
namespace Ev
open PySem PySem.Spec PyProof.Rows L2
variable {g : G} {X : Cx}

def rCmp (K : PySem.W.Frag) (φ : PyData → PyData → Option Bool) : R2 := fun x y H Q => ∃ d e b, Dp K H x d ∧ Dp K H y e ∧ φ d e = some b ∧ Q (.bl b) H
theorem min_room {u a b : Nat} (h : u + 64 < cLine) (ha : a ≤ 60) : u + min a b < cLine := by
  have : min a b ≤ a := Nat.min_le_left _ _
  omega
theorem ite_some {α : Type} {c : Prop} [Decidable c] {o : Option α} {b : α} (h : (if c then o else none) = some b) : c ∧ o = some b := by
  by_cases hc : c
  · rw [if_pos hc] at h
    exact ⟨hc, h⟩
  · rw [if_neg hc] at h
    cases h
theorem ltD_some {a b : PyData} {r : Bool} (h : ltD a b = some r) : W.alike a b = true ∧ a ≠ .none ∧ a.depth ≤ 60 ∧ r = W.dataLt a b := by
  have gen : (if W.alike a b && shallow a && shallow b && (match a with | .none => false | _ => true) then some (W.dataLt a b) else none) = some r → W.alike a b = true ∧ a ≠ .none ∧ a.depth ≤ 60 ∧ r = W.dataLt a b := fun h => by
    obtain ⟨h1, h⟩ := ite_some h
    simp only [Bool.and_eq_true] at h1
    obtain ⟨⟨⟨h1, h2⟩, h3⟩, h4⟩ := h1
    refine ⟨h1, fun z => ?_, shallow_iff.mp h2, (Option.some.inj h).symm⟩
    subst z
    cases h4
  cases a with
  | int i =>
    cases b with
    | int j =>
      cases h
      exact ⟨by simp [W.alike], by simp, by simp [PyData.depth], (W.dataLt_int i j).symm⟩
    | _ => exact gen h
  | _ => exact gen h
theorem op_cmpP (O : Ops g X) (op : CmpOp) : OpR X (compareOp op) (rCmp X.K (cmpP op)) := by
  intro pins s σ H x y v u Q I rx ry h
  obtain ⟨d, e, b, hd, he, hb, q⟩ := h
  obtain ⟨as, r1⟩ := Dp.reads I d x v hd rx
  obtain ⟨bs, r2⟩ := Dp.reads I e y u he ry
  have p1 := dp_plain hd
  have p2 := dp_plain he
  have hu := O.hu
  have fin : EP X pins σ Q (.bool b) s := ⟨.bl b, H, I, rfl, q⟩
  have eqs : ∀ {c : Bool}, eqD d e = some c → d.depth ≤ 60 ∧ c = PyData.eqv d e := fun {c} h => by
    obtain ⟨h1, h⟩ := ite_some (show (if shallow d && shallow e then some (PyData.eqv d e) else none) = some c from h)
    simp only [Bool.and_eq_true] at h1
    exact ⟨shallow_iff.mp h1.1, (Option.some.inj h).symm⟩
  have ins : ∀ {c : Bool}, inD d e = some c → (∃ xs, e = .list xs ∧ PyData.depthAll xs + 1 ≤ 60 ∧ c = xs.any fun z => PyData.eqv z d) ∨ (∃ xs, e = .tuple xs ∧ PyData.depthAll xs + 1 ≤ 60 ∧ c = xs.any fun z => PyData.eqv z d) ∨
      (∃ i j, d = .str i ∧ e = .str j ∧ c = !(Builtin.Str.occurrences j i 0 j.length 1).isEmpty) := fun {c} h => by
    cases e with
    | list xs =>
      obtain ⟨h1, h⟩ := ite_some (show (if shallow d && shallow (.list xs) then some (xs.any fun z => PyData.eqv z d) else none) = some c from h)
      simp only [Bool.and_eq_true] at h1
      have := shallow_iff.mp h1.2
      rw [depth_list] at this
      exact .inl ⟨xs, rfl, this, (Option.some.inj h).symm⟩
    | tuple xs =>
      obtain ⟨h1, h⟩ := ite_some (show (if shallow d && shallow (.tuple xs) then some (xs.any fun z => PyData.eqv z d) else none) = some c from h)
      simp only [Bool.and_eq_true] at h1
      have := shallow_iff.mp h1.2
      rw [depth_tup] at this
      exact .inr (.inl ⟨xs, rfl, this, (Option.some.inj h).symm⟩)
    | str j =>
      cases d with
      | str i => exact .inr (.inr ⟨i, j, rfl, rfl, (Option.some.inj h).symm⟩)
      | _ => cases h
    | dict kvs => cases he
    | _ => cases h
  cases op with
  | Eq =>
    obtain ⟨h1, rfl⟩ := eqs hb
    exact SeqAt.eq_plain r1 r2 p1 p2 (min_room hu h1) fin
  | NotEq =>
    cases e1 : eqD d e with
    | none =>
      rw [show cmpP .NotEq d e = (eqD d e).map not from rfl, e1] at hb
      cases hb
    | some c =>
      rw [show cmpP .NotEq d e = (eqD d e).map not from rfl, e1] at hb
      cases hb
      obtain ⟨h1, rfl⟩ := eqs e1
      exact SeqAt.ne_plain r1 r2 p1 p2 (min_room hu h1) fin
  | Lt =>
    obtain ⟨h1, h2, h3, rfl⟩ := ltD_some (show ltD d e = some b from hb)
    exact PySem.W.lt_data r1 r2 h1 h2 (min_room hu h3) fin
  | Gt =>
    cases d <;> cases e <;> simp only [cmpP, reduceCtorEq] at hb
    cases hb
    cases r1
    cases r2
    exact gt_int fin
  | LtE =>
    cases d <;> cases e <;> simp only [cmpP, reduceCtorEq] at hb
    cases hb
    cases r1
    cases r2
    exact le_int fin
  | GtE =>
    cases d <;> cases e <;> simp only [cmpP, reduceCtorEq] at hb
    cases hb
    cases r1
    cases r2
    exact ge_int fin
  | Is =>
    cases e <;> simp only [cmpP, reduceCtorEq] at hb
    cases hb
    cases he
    cases ry
    refine is_none_gen ⟨.bl _, H, I, ?_, q⟩
    cases hd <;> first | (cases rx; rfl) | (obtain ⟨t, rfl⟩ := rx; rfl)
  | IsNot =>
    cases e <;> simp only [cmpP, reduceCtorEq] at hb
    cases hb
    cases he
    cases ry
    refine isnot_none_gen ⟨.bl _, H, I, ?_, q⟩
    cases hd <;> first | (cases rx; rfl) | (obtain ⟨t, rfl⟩ := rx; rfl)
  | In =>
    rcases ins hb with ⟨xs, rfl, h1, rfl⟩ | ⟨xs, rfl, h1, rfl⟩ | ⟨i, j, rfl, rfl, rfl⟩
    · exact SeqAt.in_list_data r2 r1 (by simpa [PyData.plain] using p2) p1 (by have : min (PyData.depthAll xs) d.depth ≤ PyData.depthAll xs := Nat.min_le_left _ _; omega) fin
    · exact SeqAt.in_tuple_data r2 r1 (by simpa [PyData.plain] using p2) p1 (by have : min (PyData.depthAll xs) d.depth ≤ PyData.depthAll xs := Nat.min_le_left _ _; omega) fin
    · cases hd
      cases he
      exact op_in_str pins s σ H _ _ v u Q I rx ry ⟨i, j, rfl, rfl, q⟩
  | NotIn =>
    cases e1 : inD d e with
    | none =>
      rw [show cmpP .NotIn d e = (inD d e).map not from rfl, e1] at hb
      cases hb
    | some c =>
      rw [show cmpP .NotIn d e = (inD d e).map not from rfl, e1] at hb
      cases hb
      rcases ins e1 with ⟨xs, rfl, h1, rfl⟩ | ⟨xs, rfl, h1, rfl⟩ | ⟨i, j, rfl, rfl, rfl⟩
      · exact SeqAt.notIn_list_data r2 r1 (by simpa [PyData.plain] using p2) p1 (by have : min (PyData.depthAll xs) d.depth ≤ PyData.depthAll xs := Nat.min_le_left _ _; omega) fin
      · exact SeqAt.notIn_tuple_data r2 r1 (by simpa [PyData.plain] using p2) p1 (by have : min (PyData.depthAll xs) d.depth ≤ PyData.depthAll xs := Nat.min_le_left _ _; omega) fin
      · cases hd
        cases he
        exact op_notIn_str pins s σ H _ _ v u Q I rx ry ⟨i, j, rfl, rfl, q⟩

/-- items by a place -/
theorem atI_dps {K : PySem.W.Frag} {F : Hp} {vs : List V} {ds : List PyData} {i : Int} {c : PyData} (h : DpAll K F vs ds) (e : atI ds i = some c) : ∃ v, atI vs i = some v ∧ Dp K F v c := by
  unfold atI at e ⊢
  rw [dps_len h]
  cases hx : ixN ds.length i with
  | none => rw [hx] at e; cases e
  | some j =>
    rw [hx] at e
    obtain ⟨v, h1, h2⟩ := dps_get h (show ds[j]? = some c from e)
    exact ⟨v, h1, h2⟩
theorem ok_item_seq : OpOk g (fun a i => match a with | .dict _ => none | a => itemD a i) (rIx g.K) := by
  intro gh st H a b c x y Q R n1 n2 e q
  cases a with
  | list xs =>
    cases b <;> simp only [itemD, reduceCtorEq] at e
    obtain ⟨p, vs, rfl, h1, h2⟩ := now_list R.sub n1
    obtain ⟨v, h3, h4⟩ := atI_dps h2 e
    exact .inl ⟨p, vs, _, v, rfl, now_int n2, h1, h3, ret_old R h4 q⟩
  | tuple xs =>
    cases b <;> simp only [itemD, reduceCtorEq] at e
    obtain ⟨p, vs, rfl, h1, _, h2⟩ := now_tup R.sub n1
    obtain ⟨v, h3, h4⟩ := atI_dps h2 e
    exact .inr (.inl ⟨p, vs, _, v, rfl, now_int n2, h1, h3, ret_old R h4 q⟩)
  | str z =>
    cases b <;> simp only [itemD, reduceCtorEq] at e
    obtain ⟨h1, e⟩ := ite_some e
    obtain ⟨c', hc, rfl⟩ := Option.map_eq_some_iff.mp e
    exact .inr (.inr ⟨z, _, c', now_str n1, now_int n2, h1, hc, ret_old R (.str _) q⟩)
  | _ => cases e

/-! ### slices -/
/-- a slice's part -/
def tP (g : G) (cl : Calls) (m : Sm (Option Int)) : TO := fun σ H Q => ∃ ρ gh st o st', RE g gh ρ σ ∧ Rep g gh st H ∧ m cl ρ st = .ok o st' ∧ ∀ gh' H', Stp gh gh' st st' H H' → Rep g gh' st' H' → Q o H'
theorem PO.to {e : Option Expr} {t t' : TO} (h : PO X e t) (hi : ∀ σ H Q, t' σ H Q → t σ H Q) : PO X e t' := ⟨fun pins s σ H Q I hw => h.run pins s σ H Q I (hi σ H Q hw)⟩
theorem po_noneD {cl : Calls} : PO X none (tP g cl (evalPartI none)) := PO.to po_none fun σ H Q h => by
  obtain ⟨ρ, gh, st, o, st', re, R, e, q⟩ := h
  obtain ⟨rfl, rfl⟩ := pure_ok e
  exact q gh H (.refl _ _ _) R
theorem po_someD {cl : Calls} {e : Expr} {f : Sm W} (h : PE X e (tD g cl f)) : PO X (some e) (tP g cl (evalPartI (some f))) := PO.to (po_some h) fun σ H Q h => by
  obtain ⟨ρ, gh, st, o, st', re, R, e, q⟩ := h
  obtain ⟨x, st1, e1, e⟩ := bind_ok e
  refine ⟨ρ, gh, st, x, st1, re, R, e1, fun v gh1 H1 S1 R1 r1 => ?_⟩
  cases x with
  | d y =>
    cases y with
    | int i =>
      obtain ⟨rfl, rfl⟩ := pure_ok e
      have r1 : Dp g.K gh1.F v (.int i) := r1
      cases r1
      exact ⟨i, rfl, q gh1 H1 S1 R1⟩
    | _ => cases e
  | _ => cases e
def rSlAny (K : PySem.W.Frag) : V → Option Int → Option Int → Hp → VK → Prop := fun x lo hi H Q => rSlL K x lo hi H Q ∨ rSlA K x lo hi H Q ∨ (∃ z, x = .str z ∧ z.length ≤ sizeLine ∧ Q (.str (cutS z lo hi)) H)
end Ev

set_option Elab.async false
set_option linter.all false
set_option maxRecDepth 100000
set_option maxHeartbeats 1000000
/-! Expressions and tests. -/
namespace Ev
open PySem PySem.Spec PyProof.Rows L2
variable {g : G} {cl : Calls} {X : Cx}

theorem PT.to {e : Expr} {t t' : TT} (h : PT X e t) (hi : ∀ σ H Q, t' σ H Q → t σ H Q) : PT X e t' := ⟨fun pins s σ H Q I hw => h.run pins s σ H Q I (hi σ H Q hw)⟩
theorem PW.to {e : Expr} {t t' : TT} (h : PW X e t) (hi : ∀ σ H Q, t' σ H Q → t σ H Q) : PW X e t' := ⟨fun wh pins s σ H Q I hw => h.run wh pins s σ H Q I (hi σ H Q hw)⟩
theorem PA.to {es : List Expr} {t t' : TA} (h : PA X es t) (hi : ∀ σ H Q, t' σ H Q → t σ H Q) : PA X es t' := ⟨fun pos pins s σ H Q I hw => h.run pos pins s σ H Q I (hi σ H Q hw)⟩

/-! ### names, constants -/
theorem t_var {i : Nat} {σ : L2.St} {H : Hp} {Q : VK} (t : tD g cl (eVar i) σ H Q) : tVar i σ H Q := by
  obtain ⟨ρ, gh, st, w, st', re, R, e, q⟩ := t
  cases h : ρ[i]? with
  | none => simp only [eVar, h] at e; cases e
  | some o =>
    cases o with
    | none => simp only [eVar, h] at e; cases e
    | some w' =>
      simp only [eVar, h] at e
      obtain ⟨rfl, rfl⟩ := pure_ok e
      obtain ⟨v, h1, h2⟩ := re.val i _ h
      exact ⟨v, h1, q v gh H (.refl _ _ _) R h2⟩
theorem t_const {d : PyData} {v : V} {σ : L2.St} {H : Hp} {Q : VK} (hv : ∀ F, Dp g.K F v d) (t : tD g cl (eD d) σ H Q) : tC v σ H Q := by
  obtain ⟨ρ, gh, st, w, st', re, R, e, q⟩ := t
  obtain ⟨rfl, rfl⟩ := pure_ok e
  exact q v gh H (.refl _ _ _) R (hv _)
theorem pe_constD {c : Const} {d : PyData} {k : Nat} {pos : Pos} (h : constD c = some d) : PE X (.Constant c k pos) (tD g cl (eD d)) := by
  cases c <;> simp only [constD, reduceCtorEq] at h <;> cases h
  · exact PE.to pe_non fun σ H Q t => t_const (fun _ => .non) t
  · exact PE.to pe_bl fun σ H Q t => t_const (fun _ => .bl _) t
  · exact PE.to pe_int fun σ H Q t => t_const (fun _ => .int _) t
  · exact PE.to pe_str fun σ H Q t => t_const (fun _ => .str _) t

/-! ### lists of expressions -/
theorem pa_nilR : PA X [] (tWs g cl (evalsR [])) := PA.to pa_nil fun σ H Q t => by
  obtain ⟨ρ, gh, st, w, st', re, R, e, q⟩ := t
  obtain ⟨rfl, rfl⟩ := pure_ok e
  exact q [] gh H (.refl _ _ _) R trivial
theorem star_cons {e : Expr} {es : List Expr} {env : PySem.Env} (h : isStar e = false) : starEach (e :: es) env = (false, eval e env) :: starEach es env := by
  cases e <;> first | rfl | cases h
theorem star_plain : ∀ {es : List Expr} {env : PySem.Env} {pos : Pos}, es.any isStar = false → (backTo pos (starEach es env)).any (·.1) = false
  | [], _, _, _ => rfl
  | e :: es, env, pos, h => by
    rw [List.any_cons, Bool.or_eq_false_iff] at h
    rw [star_cons h.1]
    show (false || (backTo pos (starEach es env)).any (·.1)) = false
    rw [star_plain h.2]
    rfl
theorem pa_consR {e : Expr} {es : List Expr} {f : Sm W} {fs : List (Sm W)} (hs : isStar e = false) (h : PE X e (tD g cl f)) (hr : PA X es (tWs g cl (evalsR fs))) : PA X (e :: es) (tWs g cl (evalsR (f :: fs))) :=
  PA.to (pa_cons h hr (star_cons hs)) fun σ H Q t => by
    obtain ⟨ρ, gh, st, w, st', re, R, e, q⟩ := t
    obtain ⟨x, st1, e1, e⟩ := bind_ok e
    obtain ⟨xs, st2, e2, e⟩ := bind_ok e
    obtain ⟨rfl, rfl⟩ := pure_ok e
    exact ⟨ρ, gh, st, x, st1, re, R, e1, fun v gh1 H1 S1 R1 r1 => ⟨ρ, gh1, st1, xs, _, re.mono S1, R1, e2, fun vs gh2 H2 S2 R2 r2 => q (v :: vs) gh2 H2 (S1.trans R R1 S2) R2 ⟨r1.mono S2, r2⟩⟩⟩
theorem pa_nilA : PA X [] (tWs g cl (evalsA [])) := PA.to pa_nil fun σ H Q t => by
  obtain ⟨ρ, gh, st, w, st', re, R, e, q⟩ := t
  obtain ⟨rfl, rfl⟩ := pure_ok e
  exact q [] gh H (.refl _ _ _) R trivial
theorem pa_consA {e : Expr} {es : List Expr} {f : Sm W} {fs : List (Sm W)} (hs : isStar e = false) (h : PE X e (tD g cl f)) (hr : PA X es (tWs g cl (evalsA fs))) : PA X (e :: es) (tWs g cl (evalsA (f :: fs))) :=
  PA.to (pa_cons h hr (star_cons hs)) fun σ H Q t => by
    obtain ⟨ρ, gh, st, w, st', re, R, e, q⟩ := t
    obtain ⟨x, st1, e1, e⟩ := bind_ok e
    obtain ⟨x', st1', e1', e⟩ := bind_ok e
    obtain ⟨xs, st2, e2, e⟩ := bind_ok e
    obtain ⟨rfl, rfl⟩ := pure_ok e
    refine ⟨ρ, gh, st, x, st1, re, R, e1, fun v gh1 H1 S1 R1 r1 => ?_⟩
    obtain ⟨rfl, r1'⟩ := argW_ok R1 r1 e1'
    exact ⟨ρ, gh1, _, xs, _, re.mono S1, R1, e2, fun vs gh2 H2 S2 R2 r2 => q (v :: vs) gh2 H2 (S1.trans R R1 S2) R2 ⟨r1'.mono S2, r2⟩⟩
theorem pa_nilD : PA X [] (tDs g cl (evalsD [])) := PA.to pa_nil fun σ H Q t => by
  obtain ⟨ρ, gh, st, w, st', re, R, e, q⟩ := t
  obtain ⟨rfl, rfl⟩ := pure_ok e
  exact q [] gh H (.refl _ _ _) R .nil
theorem pa_consD {e : Expr} {es : List Expr} {f : Sm W} {fs : List (Sm W)} (hs : isStar e = false) (h : PE X e (tD g cl f)) (hr : PA X es (tDs g cl (evalsD fs))) : PA X (e :: es) (tDs g cl (evalsD (f :: fs))) :=
  PA.to (pa_cons h hr (star_cons hs)) fun σ H Q t => by
    obtain ⟨ρ, gh, st, w, st', re, R, e, q⟩ := t
    obtain ⟨x, st1, e1, e⟩ := bind_ok e
    obtain ⟨x', st1', e1', e⟩ := bind_ok e
    obtain ⟨xs, st2, e2, e⟩ := bind_ok e
    obtain ⟨rfl, rfl⟩ := pure_ok e
    refine ⟨ρ, gh, st, x, st1, re, R, e1, fun v gh1 H1 S1 R1 r1 => ?_⟩
    obtain ⟨gh1', S1', R1', r1'⟩ := toD_ok R1 r1 e1'
    have S := S1.trans R R1 S1'
    exact ⟨ρ, gh1', _, xs, _, re.mono S, R1', e2, fun vs gh2 H2 S2 R2 r2 => q (v :: vs) gh2 H2 (S.trans R R1' S2) R2 (.cons (dp_same S2.F r1') r2)⟩
theorem evalsD_len : ∀ {fs : List (Sm W)} {ρ : Env} {st st' : Store} {ds : List PyData}, evalsD fs cl ρ st = .ok ds st' → ds.length = fs.length
  | [], _, _, _, _, e => by
    obtain ⟨rfl, rfl⟩ := pure_ok e
    rfl
  | f :: fs, _, _, _, _, e => by
    obtain ⟨x, st1, e1, e⟩ := bind_ok e
    obtain ⟨x', st1', e1', e⟩ := bind_ok e
    obtain ⟨xs, st2, e2, e⟩ := bind_ok e
    obtain ⟨rfl, rfl⟩ := pure_ok e
    rw [List.length_cons, List.length_cons, evalsD_len e2]

/-! ### displays -/
theorem le_line {n : Nat} (h : n ≤ 1000) : n ≤ sizeLine := Nat.le_of_lt (small1000 h)
theorem pe_tupD {es : List Expr} {fs : List (Sm W)} {k : Nat} {pos : Pos} (hl : fs.length ≤ 1000) (h : PA X es (tDs g cl (evalsD fs))) : PE X (.Tuple es k pos) (tD g cl (eTup fs)) :=
  PE.to (pe_tup h) fun σ H Q t => by
    obtain ⟨ρ, gh, st, w, st', re, R, e, q⟩ := t
    obtain ⟨ds, st1, e1, e⟩ := bind_ok e
    obtain ⟨rfl, rfl⟩ := pure_ok e
    refine ⟨ρ, gh, st, ds, _, re, R, e1, fun vs gh1 H1 S1 R1 r1 => ⟨?_, fun p hp => ?_⟩⟩
    · rw [dps_len r1, evalsD_len e1]
      exact le_line hl
    · obtain ⟨R2, S2⟩ := R1.alloc hp (.tup vs)
      exact q _ _ _ (S1.trans R R1 S2) R2 (.tup (.inl (.inl upd_same)) (dps_same S2.F r1))
theorem cell_list {gh : Gh} {st : Store} {H : Hp} {p : Addr} {vs : List V} {ds : List PyData} (R : Rep g gh st H) (hp : H p = none) (r : DpAll g.K gh.F vs ds) : CellOk g gh.F (upd H p (.lst vs)) ⟨.list ds, .live⟩ p :=
  ⟨vs, upd_same, r, (fun z => nomatch z), fun _ => R.sub.free hp⟩
theorem pe_lstN {es : List Expr} {fs : List (Sm W)} {pos : Pos} (hl : fs.length ≤ 1000) (h : PA X es (tDs g cl (evalsD fs))) : PE X (.List es pos) (tN g cl (nList fs)) :=
  PE.to (pe_lst h) fun σ H Q t => by
    obtain ⟨ρ, gh, st, w, st', re, R, e, q⟩ := t
    obtain ⟨ds, st1, e1, e⟩ := bind_ok e
    obtain ⟨rfl, rfl⟩ := pure_ok e
    refine ⟨ρ, gh, st, ds, _, re, R, e1, fun vs gh1 H1 S1 R1 r1 => ⟨?_, fun p hp => q p _ gh1 H1 S1 R1 hp (cell_list R1 hp r1)⟩⟩
    rw [dps_len r1, evalsD_len e1]
    exact le_line hl
/-- a new list as data that stays -/
theorem pe_new {e : Expr} {m : Sm PyData} (h : PE X e (tN g cl m)) : PE X e (tD g cl (eNew m)) := PE.to h fun σ H Q t => by
  obtain ⟨ρ, gh, st, w, st', re, R, e, q⟩ := t
  obtain ⟨d, st1, e1, e⟩ := bind_ok e
  refine ⟨ρ, gh, st, d, st1, re, R, e1, fun p o gh1 H1 S1 R1 hp c => ?_⟩
  cases d with
  | list ds =>
    simp only [listOnly] at e
    obtain ⟨rfl, rfl⟩ := pure_ok e
    obtain ⟨vs, h1, h2, _⟩ := c
    rw [upd_same] at h1
    cases h1
    obtain ⟨R2, S2⟩ := R1.alloc hp (.lst vs)
    exact q _ _ _ (S1.trans R R1 S2) R2 (.lst (.inl (.inl upd_same)) (dps_same S2.F h2))
  | _ => cases e
/-- .. as a box -/
theorem pe_box {e : Expr} {m : Sm PyData} (h : PE X e (tN g cl m)) : PE X e (tD g cl (eBox m)) := PE.to h fun σ H Q t => by
  obtain ⟨ρ, gh, st, w, st', re, R, e, q⟩ := t
  obtain ⟨d, st1, e1, e⟩ := bind_ok e
  refine ⟨ρ, gh, st, d, st1, re, R, e1, fun p o gh1 H1 S1 R1 hp c => ?_⟩
  cases e
  obtain ⟨R2, S2⟩ := R1.box hp o d c
  exact q _ _ _ (S1.trans R R1 S2) R2 ⟨p, by rw [← R1.len]; exact List.getElem?_concat_length, rfl⟩

/-! ### operators -/
theorem pe_opD {a b : Expr} {op : Operator} {f h : Sm W} {r : R2} {pos : Pos} (ho : OpR X (binaryOp op) r) (hk : OpOk g (binD op) r) (ha : PE X a (tD g cl f)) (hb : PE X b (tD g cl h)) : PE X (.BinOp a op b pos) (tD g cl (eBin op f h)) :=
  PE.to (pe_op ho ha hb) fun σ H Q t => t_e2 hk t
theorem isDict_iff {a : PyData} (h : isDict a = false) : ∀ kvs, a ≠ .dict kvs := fun kvs z => by
  subst z
  cases h
theorem ok_cmpP (op : CmpOp) : OpOk g (fun a b => match isDict a, isDict b with
    | false, false => (cmpP op a b).map .bool
    | _, _ => none) (rCmp g.K (cmpP op)) := by
  intro gh st H a b c x y Q R n1 n2 e q
  cases ha : isDict a with
  | true => simp only [ha] at e; cases e
  | false =>
    cases hb : isDict b with
    | true => simp only [ha, hb] at e; cases e
    | false =>
      simp only [ha, hb] at e
      obtain ⟨k, e1, rfl⟩ := Option.map_eq_some_iff.mp e
      exact ⟨a, b, k, now_dp R.sub n1 (isDict_iff ha), now_dp R.sub n2 (isDict_iff hb), e1, ret_old R (.bl k) q⟩
end Ev

set_option Elab.async false
set_option linter.all false
set_option maxRecDepth 100000
set_option maxHeartbeats 1000000
/-! Dicts. -/
namespace Ev
open PySem PySem.Spec PyProof.Rows L2
variable {g : G} {X : Cx}

/-! ### keys -/
mutual
def toNK : PyData → NestedKey
  | .int i => .num i
  | .str x => .text x
  | .tuple xs => .tup (toNKs xs)
  | _ => .none
def toNKs : List PyData → List NestedKey
  | [] => []
  | x :: xs => toNK x :: toNKs xs
end
mutual
theorem data_toNK : ∀ {k : PyData}, keyed k = true → (toNK k).data = k
  | .none, _ => rfl
  | .int _, _ => rfl
  | .str _, _ => rfl
  | .tuple xs, h => by
    simp only [toNK, NestedKey.data]
    rw [datas_toNK (by simpa only [keyed] using h)]
  | .bool _, h => by simp [keyed] at h
  | .list _, h => by simp [keyed] at h
  | .dict _, h => by simp [keyed] at h
theorem datas_toNK : ∀ {k : List PyData}, keyedAll k = true → NestedKey.datas (toNKs k) = k
  | [], _ => rfl
  | x :: xs, h => by
    simp only [keyedAll, Bool.and_eq_true] at h
    simp only [toNKs, NestedKey.datas]
    rw [data_toNK h.1, datas_toNK h.2]
end
mutual
theorem depth_toNK : ∀ {k : PyData}, keyed k = true → (toNK k).depth = k.depth
  | .none, _ => by simp [toNK, NestedKey.depth, PyData.depth]
  | .int _, _ => by simp [toNK, NestedKey.depth, PyData.depth]
  | .str _, _ => by simp [toNK, NestedKey.depth, PyData.depth]
  | .tuple xs, h => by
    simp only [toNK, NestedKey.depth, PyData.depth]
    rw [depths_toNK (by simpa only [keyed] using h)]
  | .bool _, h => by simp [keyed] at h
  | .list _, h => by simp [keyed] at h
  | .dict _, h => by simp [keyed] at h
theorem depths_toNK : ∀ {k : List PyData}, keyedAll k = true → NestedKey.depthAll (toNKs k) = PyData.depthAll k
  | [], _ => by simp [toNKs, NestedKey.depthAll, PyData.depthAll]
  | x :: xs, h => by
    simp only [keyedAll, Bool.and_eq_true] at h
    simp only [toNKs, NestedKey.depthAll, PyData.depthAll]
    rw [depth_toNK h.1, depths_toNK h.2]
end
mutual
theorem nested_reads {h : Heap} : ∀ {k : PyData} {v : Value} {as : List Addr}, keyed k = true → Reads h v k as → NestedIs h (toNK k) v
  | .none, _, _, _, r => by cases r; exact .none
  | .int _, _, _, _, r => by cases r; exact .int _ _
  | .str _, _, _, _, r => by cases r; exact .text _ _
  | .tuple xs, _, _, hk, r => by
    cases r with
    | tuple h1 h2 h3 h4 => exact .tup h1 h2 h3 (nested_readsAll (by simpa only [keyed] using hk) h4)
  | .bool _, _, _, h, _ => by simp [keyed] at h
  | .list _, _, _, h, _ => by simp [keyed] at h
  | .dict _, _, _, h, _ => by simp [keyed] at h
theorem nested_readsAll {h : Heap} : ∀ {k : List PyData} {v : List Value} {as : List Addr}, keyedAll k = true → ReadsAll h v k as → NestedAll h (toNKs k) v
  | [], _, _, _, r => by cases r; exact .nil
  | x :: xs, _, _, hk, r => by
    simp only [keyedAll, Bool.and_eq_true] at hk
    cases r with
    | cons h1 h2 => exact .cons (nested_reads hk.1 h1) (nested_readsAll hk.2 h2)
end
mutual
theorem eqv_data : ∀ a b : NestedKey, PyData.eqv a.data b.data = NestedKey.beq a b
  | .none, b => by cases b <;> simp [NestedKey.data, PyData.eqv, NestedKey.beq]
  | .num i, b => by cases b <;> simp [NestedKey.data, PyData.eqv, NestedKey.beq]; rfl
  | .text i, b => by cases b <;> simp [NestedKey.data, PyData.eqv, NestedKey.beq]; rfl
  | .tup xs, b => by
    cases b with
    | tup ys =>
      simp only [NestedKey.data, PyData.eqv, NestedKey.beq]
      exact eqv_datas xs ys
    | _ => simp [NestedKey.data, PyData.eqv, NestedKey.beq]
theorem eqv_datas : ∀ a b : List NestedKey, PyData.eqvAll (NestedKey.datas a) (NestedKey.datas b) = NestedKey.beqAll a b
  | [], [] => by simp [NestedKey.datas, PyData.eqvAll, NestedKey.beqAll]
  | [], _ :: _ => by simp [NestedKey.datas, PyData.eqvAll, NestedKey.beqAll]
  | _ :: _, [] => by simp [NestedKey.datas, PyData.eqvAll, NestedKey.beqAll]
  | a :: as, b :: bs => by
    simp only [NestedKey.datas, PyData.eqvAll, NestedKey.beqAll]
    rw [eqv_data a b, eqv_datas as bs]
end
theorem eqv_dec (a b : NestedKey) : PyData.eqv a.data b.data = decide (a = b) := by rw [eqv_data, NestedKey.decide_eq]
theorem eqv_key (a b : Key) : PyData.eqv (keyDat a) (keyDat b) = decide (a = b) := by
  cases a <;> cases b <;> simp [keyDat, PyData.eqv] <;> rfl
theorem fits_ok {kvs : List (PyData × PyData)} {k : PyData} (h : keyFits kvs k = true) : keyed k = true ∧ k.depth ≤ 8 ∧ isNone k = false ∧ ∀ kv ∈ kvs, isTup kv.1 = isTup k := by
  unfold keyFits keyOk at h
  simp only [Bool.and_eq_true, List.all_eq_true, decide_eq_true_eq, Bool.not_eq_true', beq_iff_eq] at h
  exact ⟨h.1.1.1, h.1.1.2, h.1.2, h.2⟩
/-- a key that is no tuple -/
theorem leaf_key {k : PyData} (h : keyed k = true) (hn : isNone k = false) (ht : isTup k = false) : ∃ q : Key, k = keyDat q := by
  cases k with
  | int i => exact ⟨.inl i, rfl⟩
  | str x => exact ⟨.inr x, rfl⟩
  | none => cases hn
  | tuple => cases ht
  | bool => simp [keyed] at h
  | list => simp [keyed] at h
  | dict => simp [keyed] at h
theorem leaf_v {K : PySem.W.Frag} {F : Hp} {x : V} {q : Key} (h : Dp K F x (keyDat q)) : x = kV q := by
  cases q <;> (cases h; rfl)
theorem tup_ref {K : PySem.W.Frag} {F : Hp} {x : V} {k : PyData} (ht : isTup k = true) (h : Dp K F x k) : ∃ b, x = .ref b := by
  cases h <;> first | exact ⟨_, rfl⟩ | cases ht
theorem isTup_keyDat (q : Key) : isTup (keyDat q) = false := by cases q <;> rfl

/-! ### entries -/
theorem leaf_any {F : Hp} (q : Key) : ∀ {kvs : List (PyData × PyData)} {xs : List (Key × V)}, Paired (fun (p : PyData × PyData) (r : Key × V) => p.1 = keyDat r.1 ∧ Dp g.K F r.2 p.2) kvs xs →
    (kvs.any fun kv => PyData.eqv kv.1 (keyDat q)) = (valV xs q).isSome
  | _, _, .nil => rfl
  | _, _, .cons (b := b) ⟨h1, _⟩ t => by
    rw [List.any_cons, h1, eqv_key, leaf_any q t]
    by_cases e : b.1 = q
    · rw [valV_pos e, decide_eq_true e]; rfl
    · rw [valV_neg e, decide_eq_false e]; rfl
theorem leaf_get {F : Hp} (q : Key) : ∀ {kvs : List (PyData × PyData)} {xs : List (Key × V)}, Paired (fun (p : PyData × PyData) (r : Key × V) => p.1 = keyDat r.1 ∧ Dp g.K F r.2 p.2) kvs xs →
    (match getK kvs (keyDat q), valV xs q with
      | some d, some v => Dp g.K F v d
      | none, none => True
      | _, _ => False)
  | _, _, .nil => trivial
  | _, _, .cons (a := a) (b := b) (l₁ := l1) ⟨h1, h2⟩ t => by
    by_cases e : b.1 = q
    · rw [valV_pos e]
      have : getK (a :: l1) (keyDat q) = some a.2 := by
        unfold getK
        rw [List.find?_cons, h1, eqv_key, decide_eq_true e]
        rfl
      rw [this]
      exact h2
    · rw [valV_neg e]
      have : getK (a :: l1) (keyDat q) = getK l1 (keyDat q) := by
        unfold getK
        rw [List.find?_cons, h1, eqv_key, decide_eq_false e]
      rw [this]
      exact leaf_get q t
theorem leaf_map {F : Hp} (q : Key) {v : V} {d : PyData} (hv : Dp g.K F v d) : ∀ {kvs : List (PyData × PyData)} {xs : List (Key × V)}, Paired (fun (p : PyData × PyData) (r : Key × V) => p.1 = keyDat r.1 ∧ Dp g.K F r.2 p.2) kvs xs →
    Paired (fun (p : PyData × PyData) (r : Key × V) => p.1 = keyDat r.1 ∧ Dp g.K F r.2 p.2) (kvs.map fun kv => if PyData.eqv kv.1 (keyDat q) then (kv.1, d) else kv) (xs.map fun kv => if kv.1 = q then (kv.1, v) else kv)
  | _, _, .nil => .nil
  | _, _, .cons (b := b) ⟨h1, h2⟩ t => by
    rw [List.map_cons, List.map_cons]
    refine .cons ?_ (leaf_map q hv t)
    rw [h1, eqv_key]
    by_cases e : b.1 = q
    · rw [decide_eq_true e, if_pos rfl, if_pos e]
      exact ⟨rfl, hv⟩
    · rw [decide_eq_false e, if_neg (by simp), if_neg e]
      exact ⟨h1, h2⟩
theorem paired_snoc {α β : Type} {R : α → β → Prop} : ∀ {xs : List α} {ys : List β} {a : α} {b : β}, Paired R xs ys → R a b → Paired R (xs ++ [a]) (ys ++ [b])
  | _, _, _, _, .nil, h => .cons h .nil
  | _, _, _, _, .cons r t, h => .cons r (paired_snoc t h)
theorem leaf_put {F : Hp} (q : Key) {v : V} {d : PyData} (hv : Dp g.K F v d) {kvs : List (PyData × PyData)} {xs : List (Key × V)} (h : Paired (fun (p : PyData × PyData) (r : Key × V) => p.1 = keyDat r.1 ∧ Dp g.K F r.2 p.2) kvs xs) :
    Paired (fun (p : PyData × PyData) (r : Key × V) => p.1 = keyDat r.1 ∧ Dp g.K F r.2 p.2) (Ev.putK kvs (keyDat q) d) (L2.putK xs q v) := by
  unfold Ev.putK L2.putK
  rw [leaf_any q h, valV_any]
  split
  · exact leaf_map q hv h
  · exact paired_snoc h ⟨rfl, hv⟩
theorem leaf_drop {F : Hp} (q : Key) : ∀ {kvs : List (PyData × PyData)} {xs : List (Key × V)}, Paired (fun (p : PyData × PyData) (r : Key × V) => p.1 = keyDat r.1 ∧ Dp g.K F r.2 p.2) kvs xs →
    Paired (fun (p : PyData × PyData) (r : Key × V) => p.1 = keyDat r.1 ∧ Dp g.K F r.2 p.2) (kvs.filter fun kv => !PyData.eqv kv.1 (keyDat q)) (dropK xs q)
  | _, _, .nil => .nil
  | _, _, .cons (b := b) ⟨h1, h2⟩ t => by
    unfold dropK
    rw [List.filter_cons, List.filter_cons, h1, eqv_key]
    have ih := leaf_drop q t
    unfold dropK at ih
    by_cases e : b.1 = q
    · rw [decide_eq_true e, if_neg (by simp), if_neg (by simp [e])]
      exact ih
    · rw [decide_eq_false e, if_pos (by rfl), if_pos (by simp [e])]
      exact .cons ⟨h1, h2⟩ ih
abbrev NP (g : G) (F : Hp) : PyData × PyData → NestedKey × Addr × Value → Prop := fun p q => p.1 = q.1.data ∧ isTup p.1 = true ∧ q.1.depth ≤ 8 ∧ Dp g.K F (.ref q.2.1) p.1 ∧ ∃ v, RelV v q.2.2 ∧ Dp g.K F v p.2
theorem nest_get {F : Hp} (n : NestedKey) : ∀ {kvs : List (PyData × PyData)} {xs : List (NestedKey × Addr × Value)}, Paired (NP g F) kvs xs →
    (match getK kvs n.data, atKey xs n with
      | some d, some p => ∃ v, RelV v p.2 ∧ Dp g.K F v d
      | none, none => True
      | _, _ => False) ∧ (kvs.any fun kv => PyData.eqv kv.1 n.data) = (atKey xs n).isSome
  | _, _, .nil => ⟨trivial, rfl⟩
  | _, _, .cons (a := a) (b := b) (l₁ := l1) (l₂ := l2) ⟨h1, _, _, _, h2⟩ t => by
    obtain ⟨i1, i2⟩ := nest_get n t
    by_cases e : b.1 = n
    · have k1 : getK (a :: l1) n.data = some a.2 := by
        unfold getK
        rw [List.find?_cons, h1, eqv_dec, decide_eq_true e]
        rfl
      have k2 : atKey (b :: l2) n = some b.2 := by
        unfold atKey
        rw [List.find?_cons, decide_eq_true e]
        rfl
      rw [k1, k2, List.any_cons, h1, eqv_dec, decide_eq_true e]
      exact ⟨h2, rfl⟩
    · have k1 : getK (a :: l1) n.data = getK l1 n.data := by
        unfold getK
        rw [List.find?_cons, h1, eqv_dec, decide_eq_false e]
      have k2 : atKey (b :: l2) n = atKey l2 n := by
        unfold atKey
        rw [List.find?_cons, decide_eq_false e]
      rw [k1, k2, List.any_cons, h1, eqv_dec, decide_eq_false e]
      exact ⟨i1, i2⟩
theorem nest_map {F : Hp} (n : NestedKey) {u : Value} {v : V} {d : PyData} (rv : RelV v u) (hv : Dp g.K F v d) : ∀ {kvs : List (PyData × PyData)} {xs : List (NestedKey × Addr × Value)}, Paired (NP g F) kvs xs →
    Paired (NP g F) (kvs.map fun kv => if PyData.eqv kv.1 n.data then (kv.1, d) else kv) (xs.map (putAt n u))
  | _, _, .nil => .nil
  | _, _, .cons (b := b) ⟨h1, h2, h3, h4, h5⟩ t => by
    rw [List.map_cons, List.map_cons]
    refine .cons ?_ (nest_map n rv hv t)
    rw [h1, eqv_dec]
    unfold putAt
    by_cases e : b.1 = n
    · rw [decide_eq_true e, if_pos rfl, if_pos e]
      exact ⟨rfl, by rw [← h1]; exact h2, h3, by rw [← h1]; exact h4, v, rv, hv⟩
    · rw [decide_eq_false e, if_neg (by simp), if_neg e]
      exact ⟨h1, h2, h3, h4, h5⟩
theorem nest_put {F : Hp} {n : NestedKey} {b : Addr} {u : Value} {v : V} {d : PyData} (rv : RelV v u) (hv : Dp g.K F v d) (ht : isTup n.data = true) (hd : n.depth ≤ 8) (hb : Dp g.K F (.ref b) n.data) {kvs : List (PyData × PyData)} {xs : List (NestedKey × Addr × Value)}
    (h : Paired (NP g F) kvs xs) : Paired (NP g F) (Ev.putK kvs n.data d) (storedH xs n b u) := by
  unfold Ev.putK storedH
  rw [(nest_get n h).2]
  split
  · exact nest_map n rv hv h
  · exact paired_snoc h ⟨rfl, ht, hd, hb, v, rv, hv⟩
theorem nest_drop {F : Hp} (n : NestedKey) : ∀ {kvs : List (PyData × PyData)} {xs : List (NestedKey × Addr × Value)}, Paired (NP g F) kvs xs → Paired (NP g F) (kvs.filter fun kv => !PyData.eqv kv.1 n.data) (withoutH xs n)
  | _, _, .nil => .nil
  | _, _, .cons (b := b) ⟨h1, h2⟩ t => by
    unfold withoutH
    rw [List.filter_cons, List.filter_cons, h1, eqv_dec]
    have ih := nest_drop n t
    unfold withoutH at ih
    by_cases e : b.1 = n
    · rw [decide_eq_true e, if_neg (by simp), if_neg (by simp [e])]
      exact ih
    · rw [decide_eq_false e, if_pos (by rfl), if_pos (by simp [e])]
      exact .cons ⟨h1, h2⟩ ih
theorem putK_len (kvs : List (PyData × PyData)) (k v : PyData) : (Ev.putK kvs k v).length ≤ kvs.length + 1 := by
  unfold Ev.putK
  split
  · rw [List.length_map]; omega
  · rw [List.length_append, List.length_singleton]; omega
end Ev

set_option Elab.async false
set_option linter.all false
set_option maxRecDepth 100000
set_option maxHeartbeats 4000000
namespace Ev
open PySem PySem.Spec PyProof.Rows L2
theorem tuple_mulE (l : Addr) (items : Array Value) (n : Nat) (dd : Option Addr) (sl : Array (Option Value)) (x : Int) (u : Tok) (c0 : (decide (x < -(2 ^ 63)) || decide (x ≥ 2 ^ 63)) = false) (c1 : (items.isEmpty || x == 1) = false) (c2 : (decide (x ≤ 0) || items.isEmpty) = true) :
    Meets (Builtin.«tuple.__mul__» ⟨[.ref l, .int x u], []⟩) (fun _ R s => s.heap.get? l = some { cls := .type "tuple", dict := dd, data := .seq items n, slots := sl } ∧
      R (.ok (.ret (Value.ref s.heap.objs.size))) { s with heap := s.heap.push { cls := Value.type "tuple", data := Data.seq #[] }, toks := s.toks }) :=
  .of_wp fun prog w A R s h => by
    obtain ⟨hp, g, d, tk, os⟩ := s
    obtain ⟨hl, h⟩ := h
    have f1 := AutoSeq1.idx_int
    wp_walk using wpAny_loadPart' hl
    repeat (first
      | (refine wpAny_ite_false (decide_eq_false (by rw [c0]; exact Bool.false_ne_true)) ?_; wp_walk using wpAny_loadPart' hl)
      | (refine wpAny_ite_false (decide_eq_false (by rw [c1]; exact Bool.false_ne_true)) ?_; wp_walk using wpAny_loadPart' hl)
      | (refine wpAny_ite_true (decide_eq_true (by rw [c2])) ?_; wp_walk using wpAny_loadPart' hl))
    exact ⟨_, rfl, h⟩
theorem tuple_mulS (l : Addr) (items : Array Value) (n : Nat) (dd : Option Addr) (sl : Array (Option Value)) (x : Int) (u : Tok) (c0 : (decide (x < -(2 ^ 63)) || decide (x ≥ 2 ^ 63)) = false) (c1 : (items.isEmpty || x == 1) = true) :
    Meets (Builtin.«tuple.__mul__» ⟨[.ref l, .int x u], []⟩) (fun _ R s => s.heap.get? l = some { cls := .type "tuple", dict := dd, data := .seq items n, slots := sl } ∧
      R (.ok (.ret (Value.ref l))) s) :=
  .of_wp fun prog w A R s h => by
    obtain ⟨hp, g, d, tk, os⟩ := s
    obtain ⟨hl, h⟩ := h
    have f1 := AutoSeq1.idx_int
    wp_walk using wpAny_loadPart' hl
    repeat (first
      | (refine wpAny_ite_false (decide_eq_false (by rw [c0]; exact Bool.false_ne_true)) ?_; wp_walk using wpAny_loadPart' hl)
      | (refine wpAny_ite_true (decide_eq_true (by rw [c1])) ?_; wp_walk using wpAny_loadPart' hl))
    exact ⟨_, rfl, h⟩

/-- tuple * int -/
def rRepA (K : PySem.W.Frag) : R2 := fun x y H Q => ∃ l k xs, x = .ref l ∧ y = .int k ∧ SqT K H l xs ∧ 0 ≤ k ∧ k ≤ 1000 ∧ xs.length ≤ 1000 ∧
  (xs = [] ∨ k = 1 → Q (.ref l) H) ∧ (¬ (xs = [] ∨ k = 1) → ∀ p, H p = none → Q (.ref p) (upd H p (.tup (List.replicate k.toNat xs).flatten)))
section
variable {X : Cx}
theorem op_repA : OpR X (binaryOp .Mult) (rRepA X.K) := by
  intro pins s σ H x y v u Q I rx ry h
  obtain ⟨l, k, xs, rfl, rfl, hT, h1, h2, hz, q1, q2⟩ := h
  by_cases hk : 2 ≤ k ∧ xs ≠ []
  · exact op_repT pins s σ H _ _ v u Q I rx ry ⟨l, k, xs, rfl, rfl, hT, hk.2, hk.1, h2, hz, q2 (by
      rintro (e | e)
      · exact hk.2 e
      · omega)⟩
  cases rx
  obtain ⟨t, rfl⟩ := ry
  obtain ⟨its, r, ⟨⟨cls, dd, data, sl⟩, ho, hc, n, hd⟩, hs⟩ := I.tuple hT
  simp only at hc hd
  subst hc hd
  have hle : its.length = xs.length := r.length.symm
  have c0 : (decide (k < -(2 ^ 63)) || decide (k ≥ 2 ^ 63)) = false := by
    rw [decide_eq_false (by omega), decide_eq_false (by omega)] <;> rfl
  by_cases hw : xs = [] ∨ k = 1
  · have c1 : (its.toArray.isEmpty || k == 1) = true := by
      rcases hw with e | e
      · subst e
        cases its with
        | nil => rfl
        | cons a b => cases hle
      · subst e
        simp
    refine wpAny_binaryOp_repeat_ref (T := "tuple") (U := "int") (by decide) ⟨_, ho, rfl⟩ (fun s' => typeIs_int s' k t) noFill_tuple_mul F.fills_int_mul F.slot_int_rmul repeat_tuple F.slot_int_index.lookup
      (call_meets F.slot_int_rmul (typeIs_int s k t) F.entry_int_rmul (F.args_int_rmul_2 _ _) (int_rmul_tuple k t l its.toArray n dd sl)
        ⟨ho, rfl, ⟨_, ho, rfl⟩, call_meets F.slot_tuple_mul ⟨_, ho, rfl⟩ F.entry_tuple_mul (F.args_tuple_mul_2 _ _) (tuple_mulS l its.toArray n dd sl k t c0 c1) ⟨ho, ?_⟩⟩)
    exact ⟨.ref l, H, I, rfl, q1 hw⟩
  · have hk0 : k = 0 := by
      by_cases e : 2 ≤ k
      · exact absurd (Decidable.byContradiction fun z => hk ⟨e, fun y => hw (.inl y)⟩) id
      · have : k ≠ 1 := fun e => hw (.inr e)
        omega
    subst hk0
    have hn : its ≠ [] := fun e => hw (.inl (by
      rw [e] at hle
      exact List.eq_nil_of_length_eq_zero hle.symm))
    have c1 : (its.toArray.isEmpty || (0 : Int) == 1) = false := by
      cases its with
      | nil => exact absurd rfl hn
      | cons a b => rfl
    refine wpAny_binaryOp_repeat_ref (T := "tuple") (U := "int") (by decide) ⟨_, ho, rfl⟩ (fun s' => typeIs_int s' 0 t) noFill_tuple_mul F.fills_int_mul F.slot_int_rmul repeat_tuple F.slot_int_index.lookup
      (call_meets F.slot_int_rmul (typeIs_int s 0 t) F.entry_int_rmul (F.args_int_rmul_2 _ _) (int_rmul_tuple 0 t l its.toArray n dd sl)
        ⟨ho, rfl, ⟨_, ho, rfl⟩, call_meets F.slot_tuple_mul ⟨_, ho, rfl⟩ F.entry_tuple_mul (F.args_tuple_mul_2 _ _) (tuple_mulE l its.toArray n dd sl 0 t c0 c1 rfl) ⟨ho, ?_⟩⟩)
    exact ⟨.ref s.heap.objs.size, _, I.laid (t' := s.toks) (o := .tup (List.replicate (0 : Int).toNat xs).flatten) (fun b ob q => Heap.get?_push_of_some _ q) (Nat.le_refl _) ⟨by simp [sizeLine_eq], [], .nil, IsTup.new _ _⟩, rfl, q2 hw _ (I.hok.fresh (Nat.le_refl _))⟩
/-- str * int -/
def repS (x : Str) (k : Int) : Str := ⟨(List.replicate k.toNat x.cps.toList).flatten.toArray⟩
def rRepS : R2 := fun x y H Q => ∃ z k, x = .str z ∧ y = .int k ∧ 0 ≤ k ∧ k ≤ 1000 ∧ z.length ≤ 1000 ∧ Q (.str (repS z k)) H
theorem foldl_repA (its : Array Nat) : ∀ (m : Nat) (acc : List Nat), (List.replicate m its).foldl (· ++ ·) acc.toArray = (acc ++ (List.replicate m its.toList).flatten).toArray
  | 0, acc => by simp
  | m + 1, acc => by
    have e : acc.toArray ++ its = (acc ++ its.toList).toArray := by simp
    rw [List.replicate_succ, List.replicate_succ, List.foldl_cons, e, foldl_repA its m, List.flatten_cons, List.append_assoc]
theorem rep_nil {α : Type} : ∀ m : Nat, (List.replicate m ([] : List α)).flatten = []
  | 0 => rfl
  | m + 1 => by rw [List.replicate_succ, List.flatten_cons, rep_nil m]; rfl
theorem op_repS : OpR X (binaryOp .Mult) rRepS := by
  intro pins s σ H x y v u Q I rx ry h
  obtain ⟨z, k, rfl, rfl, h1, h2, h3, q⟩ := h
  obtain ⟨t, rfl⟩ := rx
  obtain ⟨t2, rfl⟩ := ry
  refine PySem.P.mul_str (by rw [decide_eq_false (by omega), decide_eq_false (by omega)] <;> rfl) (fun a b => ?_) (fun a b => ?_) ?_
  · have : (2 ^ 63 - 1) / k ≥ (2 ^ 63 - 1) / 1000 := by
      refine Int.le_ediv_of_mul_le (by omega) ?_
      have : (2 ^ 63 - 1) / 1000 * k ≤ (2 ^ 63 - 1) / 1000 * 1000 := Int.mul_le_mul_of_nonneg_left h2 (by decide)
      exact Int.le_trans this (by decide)
    have e : ((2 ^ 63 - 1) / 1000 : Int) ≥ 1000 := by decide
    omega
  · unfold Builtin.Str.tooLong
    rw [sizeLine_eq]
    have : z.length * k.toNat ≤ 1000 * 1000 := Nat.mul_le_mul h3 (by omega)
    exact decide_eq_false (by omega)
  · have fin : ∀ (u : Str) (t : Tok) (s' : Shared), u = repS z k → (∃ n, s' = { s with toks := n }) → EP X pins σ Q (.str u t) s' := by
      rintro u t s' rfl ⟨n, rfl⟩
      exact ⟨.str _, H, I.tok _, ⟨_, rfl⟩, q⟩
    split
    · have hk : k = 0 := by omega
      subst hk
      refine ⟨by decide, fin _ _ _ ?_ ⟨_, rfl⟩⟩
      rfl
    · split
      · rename_i h4
        refine fin _ _ _ ?_ ⟨_, rfl⟩
        simp only [Bool.or_eq_true, beq_iff_eq] at h4
        rcases h4 with h4 | h4
        · subst h4
          unfold repS
          show z = _
          rw [show (1 : Int).toNat = 1 from rfl, List.replicate_one]
          simp
        · have : z.cps.toList = [] := List.eq_nil_of_length_eq_zero (by rw [Array.length_toList]; exact h4)
          have hz : z.cps = #[] := Array.eq_empty_of_size_eq_zero h4
          unfold repS
          obtain ⟨c⟩ := z
          simp only at hz this ⊢
          rw [this, rep_nil, hz]
      · have e0 := foldl_repA z.cps k.toNat []
        rw [List.nil_append] at e0
        refine ⟨?_, fin _ _ _ ?_ ⟨_, rfl⟩⟩
        · show (List.foldl (fun x1 x2 => x1 ++ x2) #[] (List.replicate k.toNat z.cps)).size ≤ sizeLine
          rw [show List.foldl (fun x1 x2 => x1 ++ x2) #[] (List.replicate k.toNat z.cps) = _ from e0, List.size_toArray, PyProof.Rows.lm_len_rep_flat, sizeLine_eq, Array.length_toList]
          have : k.toNat * z.length ≤ 1000 * 1000 := Nat.mul_le_mul (by omega) h3
          have : k.toNat * z.cps.size ≤ 1000 * 1000 := this
          omega
        · unfold repS
          rw [← e0]
def rMulAny (K : PySem.W.Frag) : R2 := fun x y H Q => rI CMul (fun i j => .int (i * j)) x y H Q ∨ rRepA K x y H Q ∨ rRepS x y H Q
theorem op_mulAny : OpR X (binaryOp .Mult) (rMulAny X.K) := op_mul.or (op_repA.or op_repS)
theorem ok_mul {g : G} : OpOk g (binD .Mult) (rMulAny g.K) := by
  intro gh st H a b c x y Q R n1 n2 e q
  cases a <;> cases b <;> simp only [binD, reduceCtorEq] at e
  · obtain ⟨h1, e⟩ := ite_some e
    cases e
    exact .inl ⟨_, _, now_int n1, now_int n2, mulOk_iff h1, ret_old R (.int _) q⟩
  · obtain ⟨h1, e⟩ := ite_some e
    cases e
    exact .inr (.inr ⟨_, _, now_str n1, now_int n2, h1.1, h1.2.1, h1.2.2, ret_old R (.str _) q⟩)
  · obtain ⟨h1, e⟩ := ite_some e
    cases e
    obtain ⟨p, vs, rfl, k1, k1', k2⟩ := now_tup R.sub n1
    have hl := dps_len k2
    refine .inr (.inl ⟨p, _, vs, rfl, now_int n2, k1, h1.1, h1.2.1, by rw [hl]; exact h1.2.2, fun z => ?_, fun _ => ret_tup R (dps_flat k2 _) q⟩)
    refine ret_old R ?_ q
    rcases z with z | z
    · subst z
      cases k2
      rw [rep_nil]
      exact .tup k1' .nil
    · subst z
      rw [show (1 : Int).toNat = 1 from rfl, List.replicate_one]
      simp only [List.flatten_cons, List.flatten_nil, List.append_nil]
      exact .tup k1' k2
end
end Ev

set_option Elab.async false
set_option linter.all false
set_option maxRecDepth 100000
set_option maxHeartbeats 1000000
/-! x[::-1] -/
namespace Ev
open PySem PySem.Spec PyProof.Rows L2
section
variable {prog : Program} {w : World} {A : Around} {E : Value → Shared → Prop} {s : Shared}
theorem back_places (n : Nat) : Builtin.Slice.slicePlaces ((n : Int) - 1) (-1) (-1) = n := by
  unfold Builtin.Slice.slicePlaces
  have h1 : ¬ ((-1 : Int) > 0) := by omega
  simp only [h1, if_false]
  rw [show (-(-1) : Int) = 1 from rfl, Int.ediv_one]
  split <;> omega
theorem fmc {α β : Type} {f h : α → Option β} : ∀ {l : List α}, (∀ x ∈ l, f x = h x) → l.filterMap f = l.filterMap h
  | [], _ => rfl
  | x :: l, e => by
    rw [List.filterMap_cons, List.filterMap_cons, e x List.mem_cons_self, fmc (l := l) fun y hy => e y (List.mem_cons_of_mem _ hy)]
theorem back_pick {α : Type} (xs : Array α) : ((List.range xs.size).filterMap fun (m : Nat) => xs[((xs.size : Int) - 1 + (m : Int) * (-1)).toNat]?) = xs.toList.reverse := by
  rw [← PySem.W.krv_all xs, ← List.filterMap_reverse, ← PySem.W.krv_range, List.filterMap_map]
  exact fmc fun m hm => by
    have := List.mem_range.mp hm
    show xs[((xs.size : Int) - 1 + (m : Int) * (-1)).toNat]? = xs[xs.size - 1 - m]?
    rw [show ((xs.size : Int) - 1 + (m : Int) * (-1)).toNat = xs.size - 1 - m by omega]
theorem sliceApplied_back {sl : Addr} {vs : Value} {n : Nat} {Q : Int × Int × Nat → Shared → Prop} (hs : s.heap.IsSliceOf sl .none .none vs) (ps : IsPart vs (some (-1)))
    (h : Q ((n : Int) - 1, -1, n) s) : wpAny (model prog w) A (Builtin.Slice.sliceApplied (.ref sl) (pure (n : Int))) Q E s := by
  obtain ⟨os, hos, hcs, hds⟩ := id hs
  unfold Builtin.Slice.sliceApplied Builtin.Slice.sliceFields
  refine wpAny_bind (wpAny_bind (wpAny_field hos hds (x := .none) rfl (wpAny_bind (wpAny_field hos hds (x := .none) rfl (wpAny_bind (wpAny_field hos hds (x := vs) rfl (wpAny_pure ?_)))))))
  refine wpAny_bind (HT.slicePart_ ps ?_)
  show wpAny _ _ (if ((-1 : Int) == 0) = true then _ else _) _ _ s
  rw [if_neg (by decide)]
  refine wpAny_bind (HT.slicePart_ .none (wpAny_bind (HT.slicePart_ .none (wpAny_bind (wpAny_pure ?_)))))
  show wpAny _ _ (pure ((n : Int) - 1, (-1 : Int), Builtin.Slice.slicePlaces ((n : Int) - 1) (-1) (-1))) _ _ s
  rw [back_places]
  exact wpAny_pure h
theorem getItem_tuple_back {t sl : Addr} {items : Array Value} {vs : Value} {Q : Value → Shared → Prop} (ht : IsTup s.heap t items) (hs : s.heap.IsSliceOf sl .none .none vs) (ps : IsPart vs (some (-1)))
    (h : Q (.ref s.heap.objs.size) { s with heap := s.heap.push { cls := .type "tuple", data := .seq items.toList.reverse.toArray } })
    (hsz : items.size ≤ sizeLine) : wpAny (model prog w) A (getItem (.ref t) (.ref sl)) Q E s := by
  have htake : sizeOk (.seq items.toList.reverse.toArray) := by
    show items.toList.reverse.toArray.size ≤ sizeLine
    rw [List.size_toArray, List.length_reverse, Array.length_toList]
    exact hsz
  obtain ⟨os, hos, hcs, hds⟩ := id hs
  have hTs : s.TypeIs (.ref sl) "slice" := ⟨os, hos, hcs⟩
  unfold getItem
  try with_reducible refine wpAny_holding ?_
  first | refine wpAny_bind (wpAny_pure ?_) | skip
  refine wpAny_bind (wpAny_sequenceKey ht.typeIs (by decide) ?_)
  refine wpAny_bind (wpAny_callSpecial?_slot (name := Str.ofString "__getitem__") ht.typeIs PyProof.Rows.slot_tuple_getitem
    (wpAny_call_entry PyProof.Rows.slot_tuple_getitem ht.typeIs entry_tuple_getitem ?_ (args_tuple_getitem _ _)))
  show wpAny _ _ (Builtin.Tuple.tupleItemsOf (.ref t) >>= _) _ _ s
  refine wpAny_bind (tupleItemsOf_ ht ?_)
  refine wpAny_bind (wpAny_typeOf hTs ?_)
  rw [if_pos (by decide)]
  refine wpAny_bind (sliceApplied_back hs ps ?_)
  have hno : ¬ ((((items.size : Int) - 1) == 0 && (-1 : Int) == 1 && items.size == items.size) = true) := by
    intro q
    rw [Bool.and_eq_true, Bool.and_eq_true] at q
    exact absurd q.1.2 (by decide)
  show wpAny _ _ (if (((items.size : Int) - 1) == 0 && (-1 : Int) == 1 && items.size == items.size) = true then _ else _) _ _ s
  rw [if_neg hno]
  rw [back_pick]
  first
    | exact wpAny_bind (m := Builtin.Tuple.tupleExact _) (wpAny_newObj_type (wpAny_pure ⟨_, rfl, wpAny_pure h⟩) htake)
    | exact wpAny_bind (m := Builtin.Tuple.tupleExact _) (wpAny_newObj_type (wpAny_bind (wpAny_pure (wpAny_pure ⟨_, rfl, wpAny_pure h⟩))) htake)
    | exact wpAny_bind (wpAny_bind (m := Builtin.Tuple.tupleExact _) (wpAny_newObj_type (wpAny_pure (wpAny_pure ⟨_, rfl, wpAny_pure h⟩)) htake))
    | exact wpAny_bind (wpAny_bind (m := Builtin.Tuple.tupleExact _) (wpAny_newObj_type (wpAny_pure ⟨_, rfl, wpAny_pure h⟩) htake))
end
section
variable {X : Cx}
def rBack (K : PySem.W.Frag) : V → Hp → VK → Prop := fun x H Q => (∃ a xs, x = .ref a ∧ SqL K H a xs ∧ ∀ p, H p = none → Q (.ref p) (upd H p (.lst xs.reverse))) ∨
  (∃ a xs, x = .ref a ∧ SqT K H a xs ∧ ∀ p, H p = none → Q (.ref p) (upd H p (.tup xs.reverse))) ∨ (∃ z, x = .str z ∧ z.length ≤ sizeLine ∧ Q (.str ⟨z.cps.reverse⟩) H)
theorem pe_back {e : Expr} {te : TE} {k : Nat} {p1 p2 p3 pos : Pos} (he : PE X e te) : PE X (.Subscript e (.Slice none none (some (.UnaryOp .USub (.Constant (.int 1) k p1) p2)) p3) pos) (tUn (rBack X.K) te) := by
  refine ⟨fun pins s σ H Q I h => ?_⟩
  refine Subscript_ (thn (he.run pins s σ H _ I h) fun v s1 ⟨x, H1, I1, r1, q1⟩ => ?_)
  have hst : PO X (some (.UnaryOp .USub (.Constant (.int 1) k p1) p2)) (tPart (tUn (rU fun i => .int (-i)) (tC (.int 1)))) := po_some (pe_un un_neg pe_int)
  refine wpAny_Slice (thn (po_none.run pins s1 σ H1 (fun o H2 => o = none ∧ H2 = H1) I1 ⟨rfl, rfl⟩) fun vl s2 ⟨l, H2, I2, pl, el, e2⟩ => ?_)
  subst el e2
  refine thn (po_none.run pins s2 σ H2 (fun o H3 => o = none ∧ H3 = H2) I2 ⟨rfl, rfl⟩) fun vu s3 ⟨u, H3, I3, pu, eu, e3⟩ => ?_
  subst eu e3
  refine thn (hst.run pins s3 σ H3 (fun o H4 => o = some (-1) ∧ H4 = H3) I3 ⟨1, rfl, -1, rfl, rfl, rfl⟩) fun vs s4 ⟨o, H4, I4, ps, eo, e4⟩ => ?_
  subst eo e4
  have I5 : Inv X pins σ H4 { s4 with heap := s4.heap.push { cls := .type "slice", data := .fields #[vl, vu, vs] } } := I4.kept (t' := s4.toks) fun b ob q => Heap.get?_push_of_some _ q
  cases pl
  cases pu
  show wpAny (model X.prog X.w) X.A (subscriptTail e (.Slice none none (some (.UnaryOp .USub (.Constant (.int 1) k p1) p2)) p3) v (.ref s4.heap.objs.size)) (EP X pins σ Q) X.xe { s4 with heap := s4.heap.push { cls := .type "slice", data := .fields #[.none, .none, vs] } }
  rcases q1 with ⟨a, xs, ex, hx, q⟩ | ⟨a, xs, ex, hx, q⟩ | ⟨z, ex, hz, q⟩
  · subst ex
    cases r1
    obtain ⟨its, r, ht, hz⟩ := I5.list hx
    have hlen := r.length
    refine tail_any (ops := [.ref a, .ref s4.heap.objs.size]) ht.isList.typeIs (PySem.slot_list_getitem.lookup) ?_ (by with_unfolding_all rfl)
    refine wpAny_getItem_list_slice ht.isList (Heap.IsSliceOf.new _ .none .none vs) .none .none ps (by decide) ?_ (by rw [List.size_toArray]; omega)
    rw [PySem.W.krv_pick]
    refine ⟨.ref _, _, I5.laid (t' := s4.toks) (o := .lst xs.reverse) (fun b ob q => Heap.get?_push_of_some _ q) (Nat.le_refl _) ?_, rfl, q _ (I5.hok.fresh (Nat.le_refl _))⟩
    exact ⟨by rw [List.length_reverse]; exact hz, _, 0, r.reverse, Heap.get?_push_size _ rfl⟩
  · subst ex
    cases r1
    obtain ⟨its, r, ht, hz⟩ := I5.tuple hx
    have hlen := r.length
    refine tail_any (ops := [.ref a, .ref s4.heap.objs.size]) ht.typeIs slot_tuple_getitem.lookup ?_ (by with_unfolding_all rfl)
    refine getItem_tuple_back ht (Heap.IsSliceOf.new _ .none .none vs) ps ?_ (by rw [List.size_toArray]; omega)
    refine ⟨.ref _, _, I5.laid (t' := s4.toks) (o := .tup xs.reverse) (fun b ob q => Heap.get?_push_of_some _ q) (Nat.le_refl _) ?_, rfl, q _ (I5.hok.fresh (Nat.le_refl _))⟩
    exact ⟨by rw [List.length_reverse]; exact hz, _, r.reverse, IsTup.new _ _⟩
  · subst ex
    obtain ⟨t, rfl⟩ := r1
    obtain ⟨c, rfl, hc⟩ := IsPart.raw ps
    cases c with
    | none => cases hc
    | some c =>
      obtain ⟨i, t2⟩ := c
      have hi : i = -1 := Option.some.inj hc
      subst hi
      refine tail_any (ops := [.str z t, .ref s4.heap.objs.size]) (typeIs_str _ z t) PySem.F.slot_str_getitem.lookup ?_ (by with_unfolding_all rfl)
      refine wpAny_getItem_str_slice (l := none) (u := none) (st := some (-1, t2)) ⟨_, Heap.get?_push_size _ rfl, rfl, rfl⟩ rfl ?_
      have e : ((slicePicked z none none (some (-1, t2))).filterMap (z.cps[·]?)).toArray = z.cps.reverse := by
        unfold slicePicked
        show ((sliceRange ((z.length : Int) - 1) (-1) (-1)).filterMap (z.cps[·]?)).toArray = _
        rw [PySem.W.krv_sliceRange, PySem.W.krv_range, List.filterMap_reverse]
        have := PySem.W.krv_all z.cps
        rw [show z.length = z.cps.size from rfl, this]
        apply Array.ext'
        simp
      unfold sliceMade
      rw [if_neg (by
        intro q
        rw [Bool.and_eq_true] at q
        exact absurd (show ((-1 : Int) == 1) = true from q.1) (by decide)), e]
      refine ⟨?_, .str _, H4, I5.tok _, ⟨_, rfl⟩, q⟩
      show z.cps.reverse.size ≤ sizeLine
      rw [Array.size_reverse]
      exact hz
theorem t_back {g : G} {cl : Calls} {f : Sm W} {σ : L2.St} {H : Hp} {Q : VK} (t : tD g cl (e1 f backD) σ H Q) : tUn (rBack g.K) (tD g cl f) σ H Q := by
  obtain ⟨ρ, gh, st, w, st', re, R, e, q⟩ := t
  obtain ⟨x, st1, e1, e⟩ := bind_ok e
  obtain ⟨a, s3, e3, e⟩ := bind_ok e
  obtain ⟨c, s5, e5, e⟩ := bind_ok e
  obtain ⟨rfl, rfl⟩ := pure_ok e
  obtain ⟨k5, e6⟩ := opt_ok e5
  subst e6
  refine ⟨ρ, gh, st, x, st1, re, R, e1, fun v gh1 H1 S1 R1 r1 => ?_⟩
  obtain ⟨rfl, n1⟩ := deref_now R1 r1 e3
  have q' : ∀ v gh' H', Stp gh1 gh' _ _ H1 H' → Rep g gh' _ H' → Dp g.K gh'.F v c → Q v H' := fun z gh3 H3 S3 R3 d => q z gh3 H3 (S1.trans R R1 S3) R3 d
  cases a <;> simp only [backD, reduceCtorEq] at k5
  · obtain ⟨h1, k5⟩ := ite_some k5
    cases k5
    exact .inr (.inr ⟨_, now_str n1, h1, ret_old R1 (.str _) q'⟩)
  · cases k5
    obtain ⟨p, vs, rfl, h1, h2⟩ := now_list R1.sub n1
    exact .inl ⟨p, vs, rfl, h1, ret_lst R1 (dps_rev h2) q'⟩
  · cases k5
    obtain ⟨p, vs, rfl, h1, _, h2⟩ := now_tup R1.sub n1
    exact .inr (.inl ⟨p, vs, rfl, h1, ret_tup R1 (dps_rev h2) q'⟩)
end
end Ev

set_option Elab.async false
set_option linter.all false
set_option maxRecDepth 100000
set_option maxHeartbeats 1000000
/-! Dicts: the two ways to see one; operations. -/
namespace Ev
open PySem PySem.Spec PyProof.Rows L2
variable {g : G} {X : Cx}
abbrev LP (g : G) (F : Hp) : PyData × PyData → Key × V → Prop := fun p q => p.1 = keyDat q.1 ∧ Dp g.K F q.2 p.2
theorem data_inj {a b : NestedKey} (h : a.data = b.data) : a = b := by
  have e := eqv_dec a b
  rw [h, eqv_dec b b, decide_eq_true rfl] at e
  exact of_decide_eq_true e.symm
mutual
theorem keyed_data : ∀ n : NestedKey, keyed n.data = true
  | .none => rfl
  | .num _ => rfl
  | .text _ => rfl
  | .tup xs => by
    simp only [NestedKey.data, keyed]
    exact keyed_datas xs
theorem keyed_datas : ∀ n : List NestedKey, keyedAll (NestedKey.datas n) = true
  | [] => rfl
  | x :: xs => by
    simp only [NestedKey.datas, keyedAll, Bool.and_eq_true]
    exact ⟨keyed_data x, keyed_datas xs⟩
end
theorem key_nested {pins : List (Addr × Obj)} {σ : L2.St} {H : Hp} {s : Shared} (I : Inv X pins σ H s) {b : Addr} {k : PyData} (hk : keyed k = true) (hd : k.depth ≤ 8) (d : Dp X.K H (.ref b) k) : (nestedKind X.prog X.w).is s.heap (toNK k) b := by
  obtain ⟨as, r⟩ := Dp.reads I k _ (.ref b) d rfl
  exact ⟨nested_reads hk r, by rw [depth_toNK hk]; exact hd⟩
/-- seen with keys that are tuples -/
theorem view_nest {pins : List (Addr × Obj)} {σ : L2.St} {H F : Hp} {s : Shared} {p : Addr} {o : HO} {kvs : List (PyData × PyData)} (O : Ops g X) (I : Inv X pins σ H s) (sF : Same F H) (ho : H p = some o) (d : DictAt g F p o kvs)
    (ht : ∀ kv ∈ kvs, isTup kv.1 = true) : ∃ xs, s.heap.DictOfH (nestedKind X.prog X.w) p xs ∧ Paired (NP g F) kvs xs ∧ (p == sysModules) = false ∧ kvs.length ≤ sizeLine ∧ Mut (H p) := by
  have hok := I.hok p o ho
  rcases d with ⟨xs, rfl, h1⟩ | ⟨ob, rfl, h2, h3, h4, es, ep, h5, xs, h6, h7, h8⟩
  · have e : kvs = [] := by
      cases h1 with
      | nil => rfl
      | cons h t =>
        have := ht _ List.mem_cons_self
        rw [h.1, isTup_keyDat] at this
        cases this
    subst e
    cases h1
    obtain ⟨z, hd, vs, rel, ob, es, ep, k1, k2, k3, _, k5, _⟩ := hok
    cases rel
    have he : es.toList = [] := by
      have := k5.length
      exact List.eq_nil_of_length_eq_zero this
    exact ⟨[], ⟨ob, es, ep, k1, k2, k3, by rw [he]; rfl, fun x hx => by simp at hx, List.nodup_nil⟩, .nil, hd, Nat.zero_le _, by rw [ho]; trivial⟩
  · obtain ⟨k1, _, _⟩ := hok
    refine ⟨xs, ⟨ob, es, ep, k1, h3, h5, ?_, fun x hx => ?_, h7⟩, h8, h2, h4, by rw [ho]; trivial⟩
    · rw [O.P, O.w]
      exact h6
    · have : ∃ kv, NP g F kv x := by
        clear h6 h7 h4
        induction h8 with
        | nil => cases hx
        | cons q t ih =>
          rcases List.mem_cons.mp hx with e | e
          · subst e
            exact ⟨_, q⟩
          · exact ih (fun kv hkv => ht kv (List.mem_cons_of_mem _ hkv)) e
      obtain ⟨kv, q1, q2, q3, q4, _⟩ := this
      rw [q1] at q4
      have := key_nested I (keyed_data x.1) (by rw [← depth_toNK (keyed_data x.1), data_inj (data_toNK (keyed_data x.1))]; exact q3) (O.K ▸ dp_same sF q4)
      rwa [data_inj (data_toNK (keyed_data x.1))] at this
/-- seen with keys that are no tuples -/
theorem view_leaf {pins : List (Addr × Obj)} {σ : L2.St} {H F : Hp} {s : Shared} {p : Addr} {o : HO} {kvs : List (PyData × PyData)} (I : Inv X pins σ H s) (ho : H p = some o) (d : DictAt g F p o kvs)
    (ht : ∀ kv ∈ kvs, isTup kv.1 = false) : ∃ xs vs, Paired (LP g F) kvs xs ∧ KV xs vs ∧ s.heap.DictOf (mixKind X.prog X.w) p vs ∧ (p == sysModules) = false ∧ kvs.length ≤ sizeLine ∧ Mut (H p) := by
  have hok := I.hok p o ho
  rcases d with ⟨xs, rfl, h1⟩ | ⟨ob, rfl, h2, h3, h4, es, ep, h5, xs, h6, h7, h8⟩
  · obtain ⟨z, hd, vs, rel, dd⟩ := hok
    exact ⟨xs, vs, h1, rel, dd, hd, by rw [Paired.length h1]; exact z, by rw [ho]; trivial⟩
  · have e : kvs = [] := by
      cases h8 with
      | nil => rfl
      | cons h t =>
        have := ht _ List.mem_cons_self
        rw [h.2.1] at this
        cases this
    subst e
    cases h8
    obtain ⟨k1, _, _⟩ := hok
    have he : es = #[] := by
      have : es.toList = [] := h6
      exact Array.toList_eq_nil_iff.mp this
    subst he
    exact ⟨[], [], .nil, .nil, ⟨ob, #[], ep, k1, h3, h5, fun e he => absurd he (Array.not_mem_empty e), .nil, List.nodup_nil⟩, h2, Nat.zero_le _, by rw [ho]; trivial⟩

def DAt (g : G) (F H : Hp) (p : Addr) (kvs : List (PyData × PyData)) : Prop := ∃ o, H p = some o ∧ DictAt g F p o kvs
/-- a key is looked for -/
def KeyAt (g : G) (H : Hp) (x y : V) (F : Hp) (kvs : List (PyData × PyData)) (k : PyData) (p : Addr) : Prop := y = .ref p ∧ Same F H ∧ DAt g F H p kvs ∧ keyFits kvs k = true ∧ Dp g.K F x k
theorem room_n {A : Around} (h : A.units + 64 < cLine) : A.in1.units + 8 < cLine := by
  have : A.in1.units = A.units + 1 := rfl
  omega
/-- the two cases of a key -/
theorem key_cases {pins : List (Addr × Obj)} {σ : L2.St} {H F : Hp} {s : Shared} {x y : V} {u : Value} {kvs : List (PyData × PyData)} {k : PyData} {p : Addr} (O : Ops g X) (I : Inv X pins σ H s) (h : KeyAt g H x y F kvs k p) (rx : RelV x u) :
    (∃ q xs vs, k = keyDat q ∧ x = kV q ∧ Paired (LP g F) kvs xs ∧ KV xs vs ∧ s.heap.DictOf (mixKind X.prog X.w) p vs ∧ (p == sysModules) = false ∧ kvs.length ≤ sizeLine ∧ Mut (H p)) ∨
    (∃ b xs, x = .ref b ∧ u = .ref b ∧ keyed k = true ∧ k.depth ≤ 8 ∧ isTup k = true ∧ (nestedKind X.prog X.w).is s.heap (toNK k) b ∧ s.heap.DictOfH (nestedKind X.prog X.w) p xs ∧ Paired (NP g F) kvs xs ∧ (p == sysModules) = false ∧ kvs.length ≤ sizeLine ∧ Mut (H p)) := by
  obtain ⟨rfl, sF, ⟨o, ho, d⟩, hk, hx⟩ := h
  obtain ⟨k1, k2, k3, k4⟩ := fits_ok hk
  cases ht : isTup k with
  | true =>
    obtain ⟨b, rfl⟩ := tup_ref ht hx
    cases rx
    obtain ⟨xs, h1, h2, h3⟩ := view_nest O I sF ho d fun kv hkv => (k4 kv hkv).trans ht
    exact .inr ⟨b, xs, rfl, rfl, k1, k2, rfl, key_nested I k1 k2 (O.K ▸ dp_same sF hx), h1, h2, h3⟩
  | false =>
    obtain ⟨q, rfl⟩ := leaf_key k1 k3 ht
    obtain ⟨xs, vs, h⟩ := view_leaf I ho d fun kv hkv => (k4 kv hkv).trans ht
    exact .inl ⟨q, xs, vs, rfl, leaf_v hx, h⟩
def rInD (g : G) (neg : Bool) : R2 := fun x y H Q => ∃ F kvs k p, KeyAt g H x y F kvs k p ∧ Q (.bl (neg ^^ kvs.any fun kv => PyData.eqv kv.1 k)) H
theorem op_inD (O : Ops g X) : OpR X (compareOp .In) (rInD g false) := by
  intro pins s σ H x y v u Q I rx ry h
  obtain ⟨F, kvs, k, p, ka, q⟩ := h
  have hy := ka.1
  rw [Bool.false_xor] at q
  rcases key_cases O I ka rx with ⟨n, xs, vs, rfl, rfl, h1, h2, h3, h4, _⟩ | ⟨b, xs, rfl, rfl, k1, k2, k3, h1, h2, h3, h4, _⟩
  · subst hy
    cases ry
    refine wpAny_in_of (kV_is rx) h4 h3.mapOf ?_
    rw [← (h2.val n).isSome_eq, ← leaf_any n h1]
    exact ⟨.bl _, H, I.tok _, rfl, q⟩
  · subst hy
    cases ry
    refine wpAny_in_heap (room_n O.hu) h1 h4 h2 ?_
    have e := (nest_get (toNK k) h3).2
    rw [data_toNK k1] at e
    rw [← e]
    exact ⟨.bl _, H, I.tok _, rfl, q⟩
theorem op_notInD (O : Ops g X) : OpR X (compareOp .NotIn) (rInD g true) := by
  intro pins s σ H x y v u Q I rx ry h
  obtain ⟨F, kvs, k, p, ka, q⟩ := h
  have hy := ka.1
  rw [Bool.true_xor] at q
  rcases key_cases O I ka rx with ⟨n, xs, vs, rfl, rfl, h1, h2, h3, h4, _⟩ | ⟨b, xs, rfl, rfl, k1, k2, k3, h1, h2, h3, h4, _⟩
  · subst hy
    cases ry
    refine wpAny_notIn_of (kV_is rx) h4 h3.mapOf ?_
    rw [← (h2.val n).isSome_eq, ← leaf_any n h1]
    exact ⟨.bl _, H, I.tok _, rfl, q⟩
  · subst hy
    cases ry
    refine wpAny_notIn_heap (room_n O.hu) h1 h4 h2 ?_
    have e := (nest_get (toNK k) h3).2
    rw [data_toNK k1] at e
    rw [← e]
    exact ⟨.bl _, H, I.tok _, rfl, q⟩
theorem leaf_val {F : Hp} {n : Key} {kvs : List (PyData × PyData)} {xs : List (Key × V)} {vs : List (Key × Value)} {d : PyData} (h1 : Paired (LP g F) kvs xs) (h2 : KV xs vs) (e : getK kvs (keyDat n) = some d) :
    ∃ v w, valV xs n = some v ∧ valueAt vs n = some w ∧ RelV v w ∧ Dp g.K F v d := by
  have z := leaf_get n h1
  rw [e] at z
  cases hv : valV xs n with
  | none => rw [hv] at z; exact z.elim
  | some v =>
    rw [hv] at z
    have r := h2.val n
    rw [hv] at r
    obtain ⟨w, e1, e2⟩ := r.some_of
    exact ⟨v, w, rfl, e1, e2, z⟩
theorem nest_val {F : Hp} {k : PyData} {kvs : List (PyData × PyData)} {xs : List (NestedKey × Addr × Value)} {d : PyData} (hk : keyed k = true) (h : Paired (NP g F) kvs xs) (e : getK kvs k = some d) :
    ∃ v p, atKey xs (toNK k) = some p ∧ RelV v p.2 ∧ Dp g.K F v d := by
  have z := (nest_get (toNK k) h).1
  rw [data_toNK hk, e] at z
  cases hv : atKey xs (toNK k) with
  | none => rw [hv] at z; exact z.elim
  | some p =>
    rw [hv] at z
    obtain ⟨v, z1, z2⟩ := z
    exact ⟨v, p, rfl, z1, z2⟩
def rIxD (g : G) : R2 := fun x y H Q => ∃ F kvs k p d, KeyAt g H y x F kvs k p ∧ getK kvs k = some d ∧ ∀ v, Dp g.K F v d → Q v H
theorem ix_dict (O : Ops g X) : IxR X (rIxD g) := by
  intro value slice pins s σ H x y v u Q I rx ry h hs
  obtain ⟨F, kvs, k, p, d, ka, hg, q⟩ := h
  have hy := ka.1
  rcases key_cases O I ka ry with ⟨n, xs, vs, rfl, rfl, h1, h2, h3, h4, _⟩ | ⟨b, xs, rfl, rfl, k1, k2, k3, h1, h2, h3, h4, _⟩
  · subst hy
    cases rx
    obtain ⟨z, w, _, e2, e3, e4⟩ := leaf_val h1 h2 hg
    exact tail_any h3.typeIs PySem.F.slot_dict_getitem.lookup (wpAny_getItem_of (kV_is ry) h3.mapOf e2 ⟨z, H, I.tok _, e3, q z e4⟩) hs
  · subst hy
    cases rx
    obtain ⟨z, r, e1, e3, e4⟩ := nest_val k1 h3 hg
    exact tail_any h2.typeIs PySem.F.slot_dict_getitem.lookup (wpAny_getItem_heap (room_n O.hu) h1 h2 e1 ⟨z, H, I.tok _, e3, q z e4⟩) hs
/-- what stands behind a change -/
def rPutD (g : G) : TSet := fun o i v H Q => ∃ F kvs k d p, KeyAt g H i o F kvs k p ∧ kvs.length < sizeLine ∧ Dp g.K F v d ∧ ∀ ob, DictAt g F p ob (Ev.putK kvs k d) → Q (upd H p ob)
theorem set_dict (O : Ops g X) : PSet X (rPutD g) := by
  intro pins s σ H o i v ov iv u Q I ro ri rv h
  obtain ⟨F, kvs, k, d, p, ka, hl, hd, q⟩ := h
  have hy := ka.1
  have hz := putK_len kvs k d
  rcases key_cases O I ka ri with ⟨n, xs, vs, rfl, rfl, h1, h2, h3, h4, h5, mu⟩ | ⟨b, xs, rfl, rfl, k1, k2, k3, h1, h2, h3, h4, h5, mu⟩
  · subst hy
    cases ro
    have hvs : vs.length ≤ sizeLine := by rw [← h2.length, ← Paired.length h1]; exact h5
    refine wpAny_setItem_pairs (hsz := hvs) (kV_is ri) h3 fun h' dd' hs => ?_
    have he : ∃ q, h'.get? p = some q := let ⟨q, _, _, hq, _⟩ := dd'; ⟨q, hq⟩
    have new := leaf_put n hd h1
    have hlen : (L2.putK xs n v).length ≤ sizeLine := by rw [← Paired.length new]; omega
    exact ⟨_, d_write (t' := s.toks + 1) I mu hs he (dk_new hlen h4 (h2.put n rv) dd'), q _ (.inl ⟨_, rfl, new⟩)⟩
  · subst hy
    cases ro
    have hxs : xs.length ≤ sizeLine := by rw [← Paired.length h3]; exact h5
    refine wpAny_setItem_heap (hsz := hxs) (room_n O.hu) h1 h2 fun h' dd' hs => ?_
    obtain ⟨ob, es, ep, e1, e2, e3, e4, e5, e6⟩ := dd'
    have dk : (toNK k).depth ≤ 8 := by rw [depth_toNK k1]; exact k2
    have new := nest_put (g := g) (F := F) (n := toNK k) (b := b) rv hd (by rw [data_toNK k1]; exact k3) dk (by rw [data_toNK k1]; exact ka.2.2.2.2) h3
    rw [data_toNK k1] at new
    refine ⟨_, d_write (ob := known p ob) (t' := s.toks + (nestedKind X.prog X.w).draws (toNK k)) I mu hs ⟨ob, e1⟩ ⟨e1, ⟨ob, e1⟩, fun a1 a2 x y => y _ x⟩, q _ (.inr ⟨ob, rfl, h4, e2, by omega, es, ep, e3, _, ?_, e6, new⟩)⟩
    rw [← O.P, ← O.w]
    exact e4
/-- methods -/
def rGetD (g : G) : V → List V → Hp → VK → Prop := fun x xs H Q => ∃ F kvs k p y, KeyAt g H y x F kvs k p ∧ ((xs = [y] ∧ ∀ v, Dp g.K F v ((getK kvs k).getD .none) → Q v H) ∨ ∃ z d, xs = [y, z] ∧ Dp g.K F z d ∧ ∀ v, Dp g.K F v ((getK kvs k).getD d) → Q v H)
theorem leaf_none {F : Hp} {n : Key} {kvs : List (PyData × PyData)} {xs : List (Key × V)} {vs : List (Key × Value)} (h1 : Paired (LP g F) kvs xs) (h2 : KV xs vs) (e : getK kvs (keyDat n) = none) : valueAt vs n = none := by
  have z := leaf_get n h1
  rw [e] at z
  cases hv : valV xs n with
  | some v => rw [hv] at z; exact z.elim
  | none =>
    have r := h2.val n
    rw [hv] at r
    exact r.none_of
theorem nest_none {F : Hp} {k : PyData} {kvs : List (PyData × PyData)} {xs : List (NestedKey × Addr × Value)} (hk : keyed k = true) (h : Paired (NP g F) kvs xs) (e : getK kvs k = none) : atKey xs (toNK k) = none := by
  have z := (nest_get (toNK k) h).1
  rw [data_toNK hk, e] at z
  cases hv : atKey xs (toNK k) with
  | some p => rw [hv] at z; exact z.elim
  | none => rfl
end Ev

set_option Elab.async false
set_option linter.all false
set_option maxRecDepth 100000
set_option maxHeartbeats 1000000
/-! Expressions put together. -/
namespace Ev
open PySem PySem.Spec PyProof.Rows L2
variable {g : G} {cl : Calls} {X : Cx}

theorem op_no {f : Value → Value → Sem Value} : OpR X f (fun _ _ _ _ => False) := fun _ _ _ _ _ _ _ _ _ _ _ _ h => h.elim
theorem op_bin (O : Ops g X) (op : Operator) : ∃ r, OpR X (binaryOp op) r ∧ OpOk g (binD op) r := by
  have no : (∀ a b, binD op a b = none) → ∃ r, OpR X (binaryOp op) r ∧ OpOk g (binD op) r := fun h =>
    ⟨_, op_no, fun gh st H a b c x y Q R n1 n2 e q => by rw [h a b] at e; cases e⟩
  cases op with
  | Add => exact ⟨_, op_addAny, O.K ▸ ok_add⟩
  | Sub => exact ⟨_, op_subT, ok_sub⟩
  | Mult => exact ⟨_, op_mulAny, O.K ▸ ok_mul⟩
  | FloorDiv => exact ⟨_, op_fdivW, ok_fdiv⟩
  | Mod => exact ⟨_, op_mod, ok_mod⟩
  | Pow => exact ⟨_, op_pow, ok_pow⟩
  | LShift => exact ⟨_, op_shl, ok_shl⟩
  | RShift => exact ⟨_, op_shr, ok_shr⟩
  | BitAnd => exact ⟨_, rI_of0 op_and, ok_and⟩
  | BitOr => exact ⟨_, rI_of0 op_or, ok_or⟩
  | BitXor => exact ⟨_, rI_of0 op_xor, ok_xor⟩
  | _ => exact no fun a b => by cases a <;> cases b <;> rfl
theorem pe_binD (O : Ops g X) {a b : Expr} {op : Operator} {f h : Sm W} {pos : Pos} (ha : PE X a (tD g cl f)) (hb : PE X b (tD g cl h)) : PE X (.BinOp a op b pos) (tD g cl (eBin op f h)) :=
  let ⟨_, h1, h2⟩ := op_bin O op
  pe_opD h1 h2 ha hb

/-! ### comparisons -/
theorem now_dict' {gh : Gh} {H : Hp} {v : V} {kvs : List (PyData × PyData)} (R : Same gh.F H) (n : Now g gh H v (.dict kvs)) : ∃ p, v = .ref p ∧ DAt g gh.F H p kvs := by
  obtain ⟨p, o, h1, h2, h3⟩ := now_dict R n
  exact ⟨p, h1, o, h2, h3⟩
theorem now_key {gh : Gh} {H : Hp} {v : V} {k : PyData} (n : Now g gh H v k) (h : keyed k = true) : Dp g.K gh.F v k := by
  rcases n with n | ⟨p, rfl, ⟨ds, vs, rfl, h1, h2⟩ | ⟨kvs, o, rfl, _⟩⟩
  · exact n
  · simp [keyed] at h
  · simp [keyed] at h
def rCmpAll (g : G) (op : CmpOp) : R2 := fun x y H Q => rCmp g.K (cmpP op) x y H Q ∨ (op = .In ∧ rInD g false x y H Q) ∨ (op = .NotIn ∧ rInD g true x y H Q)
theorem op_cmpAll (O : Ops g X) (op : CmpOp) : OpR X (compareOp op) (rCmpAll g op) := by
  intro pins s σ H x y v u Q I rx ry h
  rcases h with h | ⟨rfl, h⟩ | ⟨rfl, h⟩
  · exact op_cmpP O op pins s σ H x y v u Q I rx ry (O.K ▸ h)
  · exact op_inD O pins s σ H x y v u Q I rx ry h
  · exact op_notInD O pins s σ H x y v u Q I rx ry h
theorem ok_cmpAll (op : CmpOp) : OpOk g (fun a b => (cmpD op a b).map .bool) (rCmpAll g op) := by
  intro gh st H a b c x y Q R n1 n2 e q
  obtain ⟨k, e1, rfl⟩ := Option.map_eq_some_iff.mp e
  unfold cmpD at e1
  cases ha : isDict a with
  | true => rw [ha] at e1; cases e1
  | false =>
    rw [ha] at e1
    have plain : isDict b = false → cmpP op a b = some k → rCmpAll g op x y H Q := fun hb e2 =>
      .inl ⟨a, b, k, now_dp R.sub n1 (isDict_iff ha), now_dp R.sub n2 (isDict_iff hb), e2, ret_old R (.bl k) q⟩
    cases b with
    | dict kvs =>
      obtain ⟨h1, e2⟩ := ite_some (show (if keyFits kvs a then _ else none) = some k from e1)
      obtain ⟨p, h2, h3⟩ := now_dict' R.sub n2
      have kd := now_key n1 (fits_ok h1).1
      cases op <;> simp only [reduceCtorEq] at e2 <;> cases e2
      · exact .inr (.inl ⟨rfl, gh.F, kvs, a, p, ⟨h2, R.sub, h3, h1, kd⟩, ret_old R (by rw [Bool.false_xor]; exact .bl _) q⟩)
      · exact .inr (.inr ⟨rfl, gh.F, kvs, a, p, ⟨h2, R.sub, h3, h1, kd⟩, ret_old R (by rw [Bool.true_xor]; exact .bl _) q⟩)
    | _ => exact plain rfl e1
theorem marks_no {op : CmpOp} {b : Expr} (h : isSet b = false) : behindInMarks op b = false := by
  cases b <;> first | rfl | cases h
theorem pe_cmpD (O : Ops g X) {a b : Expr} {op : CmpOp} {f h : Sm W} {pos : Pos} (hs : isSet b = false) (ha : PE X a (tD g cl f)) (hb : PE X b (tD g cl h)) : PE X (.Compare a [op] [b] pos) (tD g cl (eCmp op f h)) :=
  PE.to (pe_cmpR (op_cmpAll O op) ha hb (marks_no hs)) fun σ H Q t => t_e2 (ok_cmpAll op) t
/-- a test by a truth value -/
def isB (f : Sm W) : Prop := ∀ cl ρ st w st', f cl ρ st = .ok w st' → ∃ b, w = .d (.bool b)
theorem t_tst {f : Sm W} (hb : isB f) {σ : L2.St} {H : Hp} {Q : Bool → Hp → Prop} (t : tB g cl (tOf f) σ H Q) : tTest (tD g cl f) σ H Q := by
  obtain ⟨ρ, gh, st, w, st', re, R, e, q⟩ := t
  obtain ⟨x, st1, e1, e⟩ := bind_ok e
  obtain ⟨a, s3, e3, e⟩ := bind_ok e
  obtain ⟨k5, e6⟩ := opt_ok e
  subst e6
  obtain ⟨b, rfl⟩ := hb _ _ _ _ _ e1
  obtain ⟨rfl, rfl⟩ := pure_ok e3
  cases k5
  exact ⟨ρ, gh, st, _, _, re, R, e1, fun v gh1 H1 S1 R1 r1 => ⟨w, by cases r1; rfl, q gh1 H1 S1 R1⟩⟩
theorem isB_e2 {f h : Sm W} {k : PyData → PyData → Option PyData} (hk : ∀ a b c, k a b = some c → ∃ t, c = .bool t) : isB (e2 f h k) := fun cl ρ st w st' e => by
  obtain ⟨x, st1, e1, e⟩ := bind_ok e
  obtain ⟨y, st2, e2, e⟩ := bind_ok e
  obtain ⟨a, s3, e3, e⟩ := bind_ok e
  obtain ⟨b, s4, e4, e⟩ := bind_ok e
  obtain ⟨c, s5, e5, e⟩ := bind_ok e
  obtain ⟨rfl, rfl⟩ := pure_ok e
  obtain ⟨k5, e6⟩ := opt_ok e5
  obtain ⟨t, rfl⟩ := hk _ _ _ k5
  exact ⟨t, rfl⟩
theorem isB_cmp {op : CmpOp} {f h : Sm W} : isB (eCmp op f h) := isB_e2 fun a b c e => by
  obtain ⟨k, _, rfl⟩ := Option.map_eq_some_iff.mp e
  exact ⟨k, rfl⟩
theorem tTest_to {t t' : TE} {σ : L2.St} {H : Hp} {Q : Bool → Hp → Prop} (hi : ∀ Q, t' σ H Q → t σ H Q) (h : tTest t' σ H Q) : tTest t σ H Q := hi _ h
theorem pt_cmpD (O : Ops g X) {a b : Expr} {op : CmpOp} {f h : Sm W} {pos : Pos} (hs : isSet b = false) (ha : PE X a (tD g cl f)) (hb : PE X b (tD g cl h)) : PT X (.Compare a [op] [b] pos) (tB g cl (tOf (eCmp op f h))) :=
  PT.to (pt_cmpR (op_cmpAll O op) ha hb (marks_no hs)) fun σ H Q t => tTest_to (fun Q t => t_e2 (ok_cmpAll op) t) (t_tst isB_cmp t)
theorem t_chain {op op' : CmpOp} {f h i : Sm W} {σ : L2.St} {H : Hp} {Q : VK} (t : tD g cl (eChain op op' f h i) σ H Q) : tChain (rCmpAll g op) (rCmpAll g op') (tD g cl f) (tD g cl h) (tD g cl i) σ H Q := by
  obtain ⟨ρ, gh, st, w, st', re, R, e, q⟩ := t
  obtain ⟨x, st1, e1, e⟩ := bind_ok e
  obtain ⟨y, st2, e2, e⟩ := bind_ok e
  obtain ⟨a, s3, e3, e⟩ := bind_ok e
  obtain ⟨b, s4, e4, e⟩ := bind_ok e
  obtain ⟨c, s5, e5, e⟩ := bind_ok e
  obtain ⟨k5, e6⟩ := opt_ok e5
  subst e6
  refine ⟨ρ, gh, st, x, st1, re, R, e1, fun v gh1 H1 S1 R1 r1 => ⟨ρ, gh1, st1, y, st2, re.mono S1, R1, e2, fun u gh2 H2 S2 R2 r2 => ?_⟩⟩
  obtain ⟨rfl, n1⟩ := deref_now R2 (r1.mono S2) e3
  obtain ⟨rfl, n2⟩ := deref_now R2 r2 e4
  refine ok_cmpAll op gh2 _ H2 a b (.bool c) v u _ R2 n1 n2 (by show (cmpD op a b).map PyData.bool = _; rw [k5]; rfl) fun z gh3 H3 S3 R3 d => ?_
  cases d
  refine ⟨c, rfl, ?_⟩
  have S := (S1.trans R R1 S2).trans R R2 S3
  cases c with
  | false =>
    obtain ⟨rfl, rfl⟩ := pure_ok e
    rw [if_neg Bool.false_ne_true]
    exact q _ gh3 H3 S R3 (.bl false)
  | true =>
    rw [if_pos rfl]
    obtain ⟨z, st6, e6, e⟩ := bind_ok e
    obtain ⟨b', s9, e10, e⟩ := bind_ok e
    obtain ⟨c', s7, e7, e⟩ := bind_ok e
    obtain ⟨k, s8, e8, e⟩ := bind_ok e
    obtain ⟨rfl, rfl⟩ := pure_ok e
    obtain ⟨k8, e9⟩ := opt_ok e8
    subst e9
    refine ⟨ρ, gh3, _, z, st6, (re.mono S1).mono (S2.trans R1 R2 S3), R3, e6, fun v4 gh4 H4 S4 R4 r4 => ?_⟩
    obtain ⟨rfl, n3⟩ := deref_now R4 ((r2.mono S3).mono S4) e10
    obtain ⟨rfl, n4⟩ := deref_now R4 r4 e7
    exact ok_cmpAll op' gh4 _ H4 b' c' (.bool k) u v4 Q R4 n3 n4 (by show (cmpD op' b' c').map PyData.bool = _; rw [k8]; rfl) fun z gh5 H5 S5 R5 d => q z gh5 H5 ((S.trans R R3 S4).trans R R4 S5) R5 d
theorem marks2 {op op' : CmpOp} {b c : Expr} (h : isSet c = false) : lastMarks [op, op'] [b, c] = false := marks_no h
theorem pe_chainD (O : Ops g X) {a b c : Expr} {op op' : CmpOp} {f h i : Sm W} {pos : Pos} (hs : isSet c = false) (ha : PE X a (tD g cl f)) (hb : PE X b (tD g cl h)) (hc : PE X c (tD g cl i)) :
    PE X (.Compare a [op, op'] [b, c] pos) (tD g cl (eChain op op' f h i)) := PE.to (pe_chain (op_cmpAll O op) (op_cmpAll O op') ha hb hc (marks2 hs)) fun σ H Q t => t_chain t
theorem isB_chain {op op' : CmpOp} {f h i : Sm W} : isB (eChain op op' f h i) := fun cl ρ st w st' e => by
  obtain ⟨x, st1, e1, e⟩ := bind_ok e
  obtain ⟨y, st2, e2, e⟩ := bind_ok e
  obtain ⟨a, s3, e3, e⟩ := bind_ok e
  obtain ⟨b, s4, e4, e⟩ := bind_ok e
  obtain ⟨c, s5, e5, e⟩ := bind_ok e
  cases c with
  | false =>
    obtain ⟨rfl, rfl⟩ := pure_ok e
    exact ⟨_, rfl⟩
  | true =>
    obtain ⟨z, st6, e6, e⟩ := bind_ok e
    obtain ⟨b', s9, e10, e⟩ := bind_ok e
    obtain ⟨c', s7, e7, e⟩ := bind_ok e
    obtain ⟨k, s8, e8, e⟩ := bind_ok e
    obtain ⟨rfl, rfl⟩ := pure_ok e
    exact ⟨_, rfl⟩
theorem pt_chainD (O : Ops g X) {a b c : Expr} {op op' : CmpOp} {f h i : Sm W} {pos : Pos} (hs : isSet c = false) (ha : PE X a (tD g cl f)) (hb : PE X b (tD g cl h)) (hc : PE X c (tD g cl i)) :
    PT X (.Compare a [op, op'] [b, c] pos) (tB g cl (tOf (eChain op op' f h i))) := PT.to (pt_chain (op_cmpAll O op) (op_cmpAll O op') ha hb hc (marks2 hs)) fun σ H Q t => tTest_to (fun Q t => t_chain t) (t_tst isB_chain t)

/-! ### items, slices -/
def rIxAll (g : G) : R2 := fun x y H Q => rIx g.K x y H Q ∨ rIxD g x y H Q
theorem ix_all (O : Ops g X) : IxR X (rIxAll g) := (O.K ▸ ix_seq).or (ix_dict O)
theorem ok_item : OpOk g itemD (rIxAll g) := by
  intro gh st H a b c x y Q R n1 n2 e q
  cases a with
  | dict kvs =>
    obtain ⟨h1, e2⟩ := ite_some (show (if keyFits kvs b then getK kvs b else none) = some c from e)
    obtain ⟨p, h2, h3⟩ := now_dict' R.sub n1
    exact .inr ⟨gh.F, kvs, b, p, c, ⟨h2, R.sub, h3, h1, now_key n2 (fits_ok h1).1⟩, e2, fun v hv => ret_old R hv q⟩
  | _ => exact .inl (ok_item_seq gh st H _ b c x y Q R n1 n2 e q)
theorem plainIx {b : Expr} (h : isSlice b = false) : PlainIx b := by
  cases b <;> first | (intro o i; rfl) | cases h
theorem pe_itemD (O : Ops g X) {a b : Expr} {f h : Sm W} {pos : Pos} (hs : isSlice b = false) (ha : PE X a (tD g cl f)) (hb : PE X b (tD g cl h)) : PE X (.Subscript a b pos) (tD g cl (eItem f h)) :=
  PE.to (pe_ix (ix_all O) ha hb (plainIx hs)) fun σ H Q t => t_e2 ok_item t
theorem sl_all : SlR X (rSlAny X.K) := sl_list.or (sl_tupA.or sl_str)
theorem cut_whole {α : Type} {xs : List α} {lo hi : Option Int} (h : HT.sIx xs.length 0 lo = 0 ∧ HT.sIx xs.length xs.length hi = xs.length) : cutL xs lo hi = xs := by
  unfold cutL
  rw [h.1, h.2, List.drop_zero, Nat.sub_zero, List.take_length]
theorem t_slice {f : Sm W} {lo hi : Option (Sm W)} {σ : L2.St} {H : Hp} {Q : VK} (t : tD g cl (eSlice f lo hi) σ H Q) : tSl (rSlAny g.K) (tD g cl f) (tP g cl (evalPartI lo)) (tP g cl (evalPartI hi)) σ H Q := by
  obtain ⟨ρ, gh, st, w, st', re, R, e, q⟩ := t
  obtain ⟨x, st1, e1, e⟩ := bind_ok e
  obtain ⟨l, st2, e2, e⟩ := bind_ok e
  obtain ⟨u, st3, e3, e⟩ := bind_ok e
  obtain ⟨a, st4, e4, e⟩ := bind_ok e
  obtain ⟨c, s5, e5, e⟩ := bind_ok e
  obtain ⟨rfl, rfl⟩ := pure_ok e
  obtain ⟨k5, e6⟩ := opt_ok e5
  subst e6
  refine ⟨ρ, gh, st, x, st1, re, R, e1, fun v gh1 H1 S1 R1 r1 => ⟨ρ, gh1, st1, l, st2, re.mono S1, R1, e2, fun gh2 H2 S2 R2 => ⟨ρ, gh2, st2, u, st3, (re.mono S1).mono S2, R2, e3, fun gh3 H3 S3 R3 => ?_⟩⟩⟩
  obtain ⟨rfl, n⟩ := deref_now R3 ((r1.mono S2).mono S3) e4
  have S := (S1.trans R R1 S2).trans R R2 S3
  have q' : ∀ v gh' H', Stp gh3 gh' _ _ H3 H' → Rep g gh' _ H' → Dp g.K gh'.F v c → Q v H' := fun z gh4 H4 S4 R4 d => q z gh4 H4 (S.trans R R3 S4) R4 d
  cases a <;> simp only [sliceD, reduceCtorEq] at k5
  · obtain ⟨h1, k5⟩ := ite_some k5
    cases k5
    exact .inr (.inr ⟨_, now_str n, h1, ret_old R3 (.str _) q'⟩)
  · cases k5
    obtain ⟨p, vs, rfl, h1, h2⟩ := now_list R3.sub n
    exact .inl ⟨p, vs, rfl, h1, ret_lst R3 (dps_cut h2 l u) q'⟩
  · cases k5
    obtain ⟨p, vs, rfl, h1, h1', h2⟩ := now_tup R3.sub n
    refine .inr (.inl ⟨p, vs, rfl, h1, fun hw => ?_, fun _ => ret_tup R3 (dps_cut h2 l u) q'⟩)
    rw [dps_len h2] at hw
    rw [cut_whole hw] at q'
    exact ret_old R3 (.tup h1' h2) q'
theorem pe_sliceD (O : Ops g X) {e : Expr} {lo hi : Option Expr} {f : Sm W} {l u : Option (Sm W)} {p pos : Pos} (he : PE X e (tD g cl f)) (hl : PO X lo (tP g cl (evalPartI l))) (hu : PO X hi (tP g cl (evalPartI u))) :
    PE X (.Subscript e (.Slice lo hi none p) pos) (tD g cl (eSlice f l u)) := PE.to (pe_slice (O.K ▸ sl_all) he hl hu) fun σ H Q t => t_slice t
theorem pe_backD (O : Ops g X) {e : Expr} {f : Sm W} {k : Nat} {p1 p2 p3 pos : Pos} (he : PE X e (tD g cl f)) : PE X (.Subscript e (.Slice none none (some (.UnaryOp .USub (.Constant (.int 1) k p1) p2)) p3) pos) (tD g cl (e1 f backD)) :=
  PE.to (pe_back he) fun σ H Q t => O.K ▸ t_back t

/-! ### not, and, or, if -/
theorem pe_negD {a : Expr} {f : Sm W} {pos : Pos} (ha : PE X a (tD g cl f)) : PE X (.UnaryOp .USub a pos) (tD g cl (e1 f negD)) := PE.to (pe_un un_neg ha) fun σ H Q t => by
  obtain ⟨ρ, gh, st, w, st', re, R, e, q⟩ := t
  obtain ⟨x, st1, e1, e⟩ := bind_ok e
  obtain ⟨a, s3, e3, e⟩ := bind_ok e
  obtain ⟨c, s5, e5, e⟩ := bind_ok e
  obtain ⟨rfl, rfl⟩ := pure_ok e
  obtain ⟨k5, e6⟩ := opt_ok e5
  subst e6
  refine ⟨ρ, gh, st, x, st1, re, R, e1, fun v gh1 H1 S1 R1 r1 => ?_⟩
  obtain ⟨rfl, n⟩ := deref_now R1 r1 e3
  cases a <;> simp only [negD, reduceCtorEq] at k5
  cases k5
  exact ⟨_, now_int n, q _ gh1 H1 S1 R1 (.int _)⟩
theorem as_bool {w : W} {b : Bool} {st st' : Store} (h : asBool w st = .ok b st') : w = .d (.bool b) ∧ st' = st := by
  cases w with
  | d x =>
    cases x with
    | bool k =>
      obtain ⟨rfl, rfl⟩ := pure_ok h
      exact ⟨rfl, rfl⟩
    | _ => cases h
  | _ => cases h
theorem pe_notD {a : Expr} {f : Sm W} {pos : Pos} (ha : PE X a (tD g cl f)) : PE X (.UnaryOp .Not a pos) (tD g cl (eNot f)) := PE.to (pe_not ha) fun σ H Q t => by
  obtain ⟨ρ, gh, st, w, st', re, R, e, q⟩ := t
  obtain ⟨x, st1, e1, e⟩ := bind_ok e
  obtain ⟨b, s3, e3, e⟩ := bind_ok e
  obtain ⟨rfl, rfl⟩ := pure_ok e
  obtain ⟨rfl, rfl⟩ := as_bool e3
  exact ⟨ρ, gh, st, _, _, re, R, e1, fun v gh1 H1 S1 R1 r1 => ⟨b, by cases r1; rfl, q _ gh1 H1 S1 R1 (.bl _)⟩⟩
theorem pe_andD {a b : Expr} {rest : List Expr} {f h : Sm W} {pos : Pos} (ha : PE X a (tD g cl f)) (hb : PE X (.BoolOp .And (b :: rest) pos) (tD g cl h)) : PE X (.BoolOp .And (a :: b :: rest) pos) (tD g cl (eAnd f h)) :=
  PE.to (pe_and ha hb) fun σ H Q t => by
    obtain ⟨ρ, gh, st, w, st', re, R, e, q⟩ := t
    obtain ⟨x, st1, e1, e⟩ := bind_ok e
    obtain ⟨b, s3, e3, e⟩ := bind_ok e
    obtain ⟨rfl, rfl⟩ := as_bool e3
    refine ⟨ρ, gh, st, _, _, re, R, e1, fun v gh1 H1 S1 R1 r1 => ⟨b, by cases r1; rfl, ?_⟩⟩
    cases b with
    | false =>
      obtain ⟨rfl, rfl⟩ := pure_ok e
      rw [if_neg Bool.false_ne_true]
      exact q _ gh1 H1 S1 R1 (.bl _)
    | true =>
      rw [if_pos rfl]
      exact ⟨ρ, gh1, _, w, st', re.mono S1, R1, e, fun v gh2 H2 S2 R2 r2 => q v gh2 H2 (S1.trans R R1 S2) R2 r2⟩
theorem pe_orD {a b : Expr} {rest : List Expr} {f h : Sm W} {pos : Pos} (ha : PE X a (tD g cl f)) (hb : PE X (.BoolOp .Or (b :: rest) pos) (tD g cl h)) : PE X (.BoolOp .Or (a :: b :: rest) pos) (tD g cl (eOr f h)) :=
  PE.to (pe_or ha hb) fun σ H Q t => by
    obtain ⟨ρ, gh, st, w, st', re, R, e, q⟩ := t
    obtain ⟨x, st1, e1, e⟩ := bind_ok e
    obtain ⟨b, s3, e3, e⟩ := bind_ok e
    obtain ⟨rfl, rfl⟩ := as_bool e3
    refine ⟨ρ, gh, st, _, _, re, R, e1, fun v gh1 H1 S1 R1 r1 => ⟨b, by cases r1; rfl, ?_⟩⟩
    cases b with
    | true =>
      obtain ⟨rfl, rfl⟩ := pure_ok e
      rw [if_pos rfl]
      exact q _ gh1 H1 S1 R1 (.bl _)
    | false =>
      rw [if_neg Bool.false_ne_true]
      exact ⟨ρ, gh1, _, w, st', re.mono S1, R1, e, fun v gh2 H2 S2 R2 r2 => q v gh2 H2 (S1.trans R R1 S2) R2 r2⟩
theorem pe_ifD {c a b : Expr} {t : Sm Bool} {f h : Sm W} {pos : Pos} (hc : PT X c (tB g cl t)) (ha : PE X a (tD g cl f)) (hb : PE X b (tD g cl h)) : PE X (.IfExp c a b pos) (tD g cl (eIf t f h)) :=
  PE.to (pe_ifExp hc ha hb) fun σ H Q t => by
    obtain ⟨ρ, gh, st, w, st', re, R, e, q⟩ := t
    obtain ⟨b, st1, e1, e⟩ := bind_ok e
    refine ⟨ρ, gh, st, b, st1, re, R, e1, fun gh1 H1 S1 R1 => ?_⟩
    have k : ∀ v gh2 H2, Stp gh1 gh2 st1 st' H1 H2 → Rep g gh2 st' H2 → RW g gh2 w v → Q v H2 := fun v gh2 H2 S2 R2 r2 => q v gh2 H2 (S1.trans R R1 S2) R2 r2
    cases b with
    | true =>
      show (if true = true then _ else _)
      rw [if_pos rfl]
      exact ⟨ρ, gh1, _, w, st', re.mono S1, R1, e, k⟩
    | false =>
      show (if false = true then _ else _)
      rw [if_neg Bool.false_ne_true]
      exact ⟨ρ, gh1, _, w, st', re.mono S1, R1, e, k⟩

/-! ### tests -/
theorem pt_notD {a : Expr} {t : Sm Bool} {pos : Pos} (ha : PT X a (tB g cl t)) : PT X (.UnaryOp .Not a pos) (tB g cl (tNot t)) := PT.to (pt_not ha) fun σ H Q t => by
  obtain ⟨ρ, gh, st, w, st', re, R, e, q⟩ := t
  obtain ⟨x, st1, e1, e⟩ := bind_ok e
  obtain ⟨rfl, rfl⟩ := pure_ok e
  exact ⟨ρ, gh, st, _, _, re, R, e1, fun gh1 H1 S1 R1 => q gh1 H1 S1 R1⟩
theorem t_tand {t u : Sm Bool} {σ : L2.St} {H : Hp} {Q : Bool → Hp → Prop} (h : tB g cl (tAnd t u) σ H Q) : L2.tAnd (tB g cl t) (tB g cl u) σ H Q := by
  obtain ⟨ρ, gh, st, w, st', re, R, e, q⟩ := h
  obtain ⟨b, st1, e1, e⟩ := bind_ok e
  refine ⟨ρ, gh, st, _, _, re, R, e1, fun gh1 H1 S1 R1 => ?_⟩
  cases b with
  | false =>
    obtain ⟨rfl, rfl⟩ := pure_ok e
    show (if false = true then _ else _)
    rw [if_neg Bool.false_ne_true]
    exact q gh1 H1 S1 R1
  | true =>
    show (if true = true then _ else _)
    rw [if_pos rfl]
    exact ⟨ρ, gh1, _, w, st', re.mono S1, R1, e, fun gh2 H2 S2 R2 => q gh2 H2 (S1.trans R R1 S2) R2⟩
theorem t_tor {t u : Sm Bool} {σ : L2.St} {H : Hp} {Q : Bool → Hp → Prop} (h : tB g cl (tOr t u) σ H Q) : L2.tOr (tB g cl t) (tB g cl u) σ H Q := by
  obtain ⟨ρ, gh, st, w, st', re, R, e, q⟩ := h
  obtain ⟨b, st1, e1, e⟩ := bind_ok e
  refine ⟨ρ, gh, st, _, _, re, R, e1, fun gh1 H1 S1 R1 => ?_⟩
  cases b with
  | true =>
    obtain ⟨rfl, rfl⟩ := pure_ok e
    show (if true = true then _ else _)
    rw [if_pos rfl]
    exact q gh1 H1 S1 R1
  | false =>
    show (if false = true then _ else _)
    rw [if_neg Bool.false_ne_true]
    exact ⟨ρ, gh1, _, w, st', re.mono S1, R1, e, fun gh2 H2 S2 R2 => q gh2 H2 (S1.trans R R1 S2) R2⟩
/-- what is no special case of a test -/
def plainT : Expr → Bool
  | .UnaryOp .Not _ _ => false
  | .BoolOp .. => false
  | .IfExp .. => false
  | .Compare .. => false
  | _ => true
theorem isTrue_plain {e : Expr} (h : plainT e = true) (env : PySem.Env) (whole : Sem Value) : isTrue e env whole = (do let v ← whole; standAt e.pos; holding [v] (truthy v)) := by
  cases e <;> first | rfl | cases h | skip
  rename_i op a pos
  cases op <;> first | rfl | cases h
theorem pt_ofD (O : Ops g X) {e : Expr} {f : Sm W} (h : plainT e = true) (he : PE X e (tD g cl f)) : PT X e (tB g cl (tOf f)) := PT.to (pt_truth he (isTrue_plain h X.env)) fun σ H Q t => by
  obtain ⟨ρ, gh, st, w, st', re, R, e, q⟩ := t
  obtain ⟨x, st1, e1, e⟩ := bind_ok e
  obtain ⟨a, s3, e3, e⟩ := bind_ok e
  obtain ⟨k5, e6⟩ := opt_ok e
  subst e6
  refine ⟨ρ, gh, st, x, st1, re, R, e1, fun v gh1 H1 S1 R1 r1 => ?_⟩
  obtain ⟨rfl, n⟩ := deref_now R1 r1 e3
  refine ⟨w, ?_, q gh1 H1 S1 R1⟩
  cases a <;> simp only [truthD, reduceCtorEq] at k5
  · cases k5
    rw [now_none n]
    rfl
  · cases k5
    rw [now_bool n]
    rfl
  · cases k5
    rw [now_int n]
    rfl
  · obtain ⟨h1, k5⟩ := ite_some k5
    cases k5
    rw [now_str n]
    exact ⟨h1, rfl⟩
  · cases k5
    obtain ⟨p, vs, rfl, h1, h2⟩ := now_list R1.sub n
    refine .inl ⟨vs, O.K ▸ h1, ?_⟩
    cases h2 <;> rfl
  · cases k5
    obtain ⟨p, vs, rfl, h1, _, h2⟩ := now_tup R1.sub n
    refine .inr (.inl ⟨vs, O.K ▸ h1, ?_⟩)
    cases h2 <;> rfl
end Ev

set_option Elab.async false
set_option linter.all false
set_option maxRecDepth 100000
set_option maxHeartbeats 1000000
/-! Built-ins. -/
namespace Ev
open PySem PySem.Spec PyProof.Rows L2
variable {g : G} {cl : Calls} {X : Cx}

inductive NowAll (g : G) (gh : Gh) (H : Hp) : List V → List PyData → Prop
  | nil : NowAll g gh H [] []
  | cons {v : V} {vs : List V} {a : PyData} {as : List PyData} : Now g gh H v a → NowAll g gh H vs as → NowAll g gh H (v :: vs) (a :: as)
def CbOk (g : G) (k : List PyData → Option PyData) (r : List V → Hp → VK → Prop) : Prop :=
  ∀ (gh : Gh) (st : Store) (H : Hp) (as : List PyData) (c : PyData) (vs : List V) (Q : VK), Rep g gh st H → NowAll g gh H vs as → k as = some c →
    (∀ v gh' H', Stp gh gh' st st H H' → Rep g gh' st H' → Dp g.K gh'.F v c → Q v H') → r vs H Q
theorem derefs_now {gh : Gh} {st : Store} {H : Hp} (R : Rep g gh st H) : ∀ {ws : List W} {vs : List V} {as : List PyData} {st' : Store}, RWs g gh ws vs → derefs ws st = .ok as st' → st' = st ∧ NowAll g gh H vs as
  | [], [], as, st', _, e => by
    obtain ⟨rfl, rfl⟩ := pure_ok e
    exact ⟨rfl, .nil⟩
  | w :: ws, v :: vs, as, st', ⟨r1, r2⟩, e => by
    obtain ⟨x, st1, e1, f1⟩ := bind_ok (f := deref w) e
    obtain ⟨rfl, n⟩ := deref_now R r1 e1
    obtain ⟨xs, st2, e2, f2⟩ := bind_ok (f := derefs ws) f1
    obtain ⟨rfl, ns⟩ := derefs_now R r2 e2
    obtain ⟨rfl, rfl⟩ := pure_ok f2
    exact ⟨rfl, .cons n ns⟩
theorem t_bi {k : List PyData → Option PyData} {r : List V → Hp → VK → Prop} {fs : List (Sm W)} {σ : L2.St} {H : Hp} {Q : VK} (hk : CbOk g k r) (t : tD g cl (eBi fs k) σ H Q) : tCB r (tWs g cl (evalsR fs)) σ H Q := by
  obtain ⟨ρ, gh, st, w, st', re, R, e, q⟩ := t
  obtain ⟨ws, st1, e1, e⟩ := bind_ok e
  obtain ⟨ds, s2, e2, e⟩ := bind_ok e
  obtain ⟨c, s5, e5, e⟩ := bind_ok e
  obtain ⟨rfl, rfl⟩ := pure_ok e
  obtain ⟨k5, e6⟩ := opt_ok e5
  subst e6
  refine ⟨ρ, gh, st, ws, st1, re, R, e1, fun vs gh1 H1 S1 R1 r1 => ?_⟩
  obtain ⟨rfl, n⟩ := derefs_now R1 r1 e2
  exact hk gh1 _ H1 ds c vs Q R1 n k5 fun v gh2 H2 S2 R2 d => q v gh2 H2 (S1.trans R R1 S2) R2 d
/-- a new list -/
def CnOk (g : G) (k : List PyData → Option PyData) (r : List V → Hp → VK → Prop) : Prop :=
  ∀ (gh : Gh) (st : Store) (H : Hp) (as : List PyData) (c : PyData) (vs : List V) (Q : VK), Rep g gh st H → NowAll g gh H vs as → k as = some c →
    (∀ p o, H p = none → CellOk g gh.F (upd H p o) ⟨c, .live⟩ p → Q (.ref p) (upd H p o)) → r vs H Q
theorem t_nbi {k : List PyData → Option PyData} {r : List V → Hp → VK → Prop} {fs : List (Sm W)} {σ : L2.St} {H : Hp} {Q : VK} (hk : CnOk g k r) (t : tN g cl (nBi fs k) σ H Q) : tCB r (tWs g cl (evalsR fs)) σ H Q := by
  obtain ⟨ρ, gh, st, w, st', re, R, e, q⟩ := t
  obtain ⟨ws, st1, e1, e⟩ := bind_ok e
  obtain ⟨ds, s2, e2, e⟩ := bind_ok e
  obtain ⟨k5, e6⟩ := opt_ok e
  subst e6
  refine ⟨ρ, gh, st, ws, st1, re, R, e1, fun vs gh1 H1 S1 R1 r1 => ?_⟩
  obtain ⟨rfl, n⟩ := derefs_now R1 r1 e2
  exact hk gh1 _ H1 ds w vs Q R1 n k5 fun p o hp c => q p o gh1 H1 S1 R1 hp c

theorem now1 {gh : Gh} {H : Hp} {vs : List V} {a : PyData} (n : NowAll g gh H vs [a]) : ∃ v, vs = [v] ∧ Now g gh H v a := by
  cases n with
  | cons h t =>
    cases t
    exact ⟨_, rfl, h⟩
theorem now2 {gh : Gh} {H : Hp} {vs : List V} {a b : PyData} (n : NowAll g gh H vs [a, b]) : ∃ v u, vs = [v, u] ∧ Now g gh H v a ∧ Now g gh H u b := by
  cases n with
  | cons h t =>
    cases t with
    | cons h2 t =>
      cases t
      exact ⟨_, _, rfl, h, h2⟩
/-- the one argument -/
theorem arg1 {α : Type} {as : List PyData} {c : α} {k : List PyData → Option α} (hk : ∀ as, as.length ≠ 1 → k as = none) (h : k as = some c) : ∃ a, as = [a] := by
  match as with
  | [a] => exact ⟨a, rfl⟩
  | [] => rw [hk [] (by simp)] at h; cases h
  | a :: b :: r => rw [hk _ (by simp)] at h; cases h

/-! ### len -/
def rLen (g : G) : List V → Hp → VK → Prop := fun xs H Q => (∃ x n, xs = [x] ∧ LenV g.K x H n ∧ Q (.int n) H) ∨ ∃ p F kvs, xs = [.ref p] ∧ Same F H ∧ DAt g F H p kvs ∧ ((∀ kv ∈ kvs, isTup kv.1 = true) ∨ (∀ kv ∈ kvs, isTup kv.1 = false)) ∧ Q (.int kvs.length) H
theorem cb_lenX (O : Ops g X) : CallR X (.builtin "len") (rLen g) := by
  intro pins s σ H xs us Q I r h
  rcases h with ⟨x, n, h1, h2, h3⟩ | ⟨p, F, kvs, rfl, sF, ⟨o, ho, d⟩, ht, q⟩
  · exact call_len pins s σ H xs us Q I r ⟨x, n, h1, O.K ▸ h2, h3⟩
  · obtain ⟨u, rfl, rx⟩ := vals1 r
    cases rx
    rcases ht with ht | ht
    · obtain ⟨ys, h1, h2, h3, h4, _⟩ := view_nest O I sF ho d ht
      rw [Paired.length h2] at h4 q
      exact call_len_dictH h3 h1 (by rw [sizeLine_eq] at h4; omega) ⟨.int _, H, I.tok _, ⟨_, rfl⟩, q⟩
    · obtain ⟨ys, ws, h1, h2, h3, h4, h5, _⟩ := view_leaf I ho d ht
      have e : kvs.length = ws.length := by rw [Paired.length h1, h2.length]
      rw [e] at h5 q
      exact call_len_dict h4 h3 (by rw [sizeLine_eq] at h5; omega) ⟨.int _, H, I.tok _, ⟨_, rfl⟩, q⟩
theorem dict_sorts {gh : Gh} {p : Addr} {o : HO} {kvs : List (PyData × PyData)} (d : DictAt g gh.F p o kvs) : (∀ kv ∈ kvs, isTup kv.1 = true) ∨ (∀ kv ∈ kvs, isTup kv.1 = false) := by
  rcases d with ⟨xs, rfl, h1⟩ | ⟨ob, rfl, h2, h3, h4, es, ep, h5, xs, h6, h7, h8⟩
  · refine .inr ?_
    induction h1 with
    | nil => intro kv h; cases h
    | cons a _ ih =>
      intro kv h
      rcases List.mem_cons.mp h with e | e
      · subst e
        rw [a.1, isTup_keyDat]
      · exact ih kv e
  · refine .inl ?_
    clear h6 h7 h4
    induction h8 with
    | nil => intro kv h; cases h
    | cons a _ ih =>
      intro kv h
      rcases List.mem_cons.mp h with e | e
      · subst e
        exact a.2.1
      · exact ih kv e
theorem ok_len : CbOk g lenD (rLen g) := by
  intro gh st H as c vs Q R n e q
  obtain ⟨a, rfl⟩ := arg1 (by
    intro as h
    match as with
    | [] => rfl
    | [a] => exact absurd rfl h
    | a :: b :: r => cases a <;> rfl) e
  obtain ⟨v, rfl, m⟩ := now1 n
  cases a <;> simp only [lenD, reduceCtorEq] at e
  · obtain ⟨h1, e⟩ := ite_some e
    cases e
    rw [now_str m]
    exact .inl ⟨_, _, rfl, ⟨h1, rfl⟩, ret_old R (.int _) q⟩
  · cases e
    obtain ⟨p, ws, rfl, h1, h2⟩ := now_list R.sub m
    rw [← dps_len h2] at q
    exact .inl ⟨_, _, rfl, .inl ⟨ws, h1, rfl⟩, ret_old R (.int _) q⟩
  · cases e
    obtain ⟨p, ws, rfl, h1, _, h2⟩ := now_tup R.sub m
    rw [← dps_len h2] at q
    exact .inl ⟨_, _, rfl, .inr ⟨ws, h1, rfl⟩, ret_old R (.int _) q⟩
  · cases e
    obtain ⟨p, rfl, h⟩ := now_dict' R.sub m
    obtain ⟨o, _, d⟩ := id h
    exact .inr ⟨p, gh.F, _, rfl, R.sub, h, dict_sorts d, ret_old R (.int _) q⟩

/-! ### abs, max, min -/
theorem ok_abs : CbOk g absD (fun xs H Q => ∃ i, xs = [.int i] ∧ Q (.int (if i < 0 then -i else i)) H) := by
  intro gh st H as c vs Q R n e q
  obtain ⟨a, rfl⟩ := arg1 (by
    intro as h
    match as with
    | [] => rfl
    | [a] => exact absurd rfl h
    | a :: b :: r => cases a <;> rfl) e
  obtain ⟨v, rfl, m⟩ := now1 n
  cases a <;> simp only [absD, reduceCtorEq] at e
  cases e
  exact ⟨_, by rw [now_int m], ret_old R (.int _) q⟩
/-- the greatest, the least of a list or tuple -/
def rBest (g : G) (f : PyData → List PyData → PyData) : List V → Hp → VK → Prop := fun xs H Q => ∃ p vs x ds, xs = [.ref p] ∧ (SqL g.K H p vs ∨ SqT g.K H p vs) ∧ DpAll g.K H vs (x :: ds) ∧ PySem.W.AlikeAll (x :: ds) ∧ PyData.depthAll (x :: ds) ≤ 60 ∧
  ∀ (i : Nat) (v : V), vs[i]? = some v → (x :: ds)[i]? = some (f x ds) → Q v H
theorem vals_getR : ∀ {xs : List V} {us : List Value}, Vals xs us → ∀ {i : Nat} {u : Value}, us[i]? = some u → ∃ x, xs[i]? = some x ∧ RelV x u
  | _, _, .nil, _, _, h => by simp at h
  | _, _, .cons p r, 0, _, h => by simp at h; subst h; exact ⟨_, rfl, p⟩
  | _, _, .cons p r, i + 1, _, h => by
    obtain ⟨u, h1, h2⟩ := vals_getR r (i := i) (by simpa using h)
    exact ⟨u, by simpa using h1, h2⟩
theorem best_at {pins : List (Addr × Obj)} {σ : L2.St} {H : Hp} {s : Shared} (I : Inv X pins σ H s) {vs : List V} {its : List Value} {ds : List PyData} (rv : Vals vs its) (d : DpAll X.K H vs ds) {i : Nat} {v : Value} {h' : Heap} {M : PyData} {bs : List Addr}
    (hi : its.toArray[i]? = some v) (r : Reads h' v M bs) (hk : ∀ b o, s.heap.get? b = some o → h'.get? b = some o) (hM : M ∈ ds) : ∃ u, vs[i]? = some u ∧ RelV u v ∧ ds[i]? = some M := by
  rw [← Array.getElem?_toList] at hi
  obtain ⟨u, h1, h2⟩ := vals_getR rv hi
  obtain ⟨c, h3, h4⟩ := dps_getV d h1
  obtain ⟨as, r2⟩ := Dp.reads I c u v h4 h2
  have r3 : Reads h' v c as := PyProof.Rows.Reads.keeps hk r2
  have pM : M.plain = true := by
    obtain ⟨j, hj⟩ := List.mem_iff_getElem?.mp hM
    obtain ⟨_, _, h5⟩ := dps_get d hj
    exact dp_plain h5
  have e : c = M := by
    rw [← SeqAt.readOf_plain (dp_plain h4) r3, ← SeqAt.readOf_plain pM r]
  subst e
  exact ⟨u, h1, h2, h3⟩
theorem best_mem {f : PyData → PyData → Bool} : ∀ {xs : List PyData} {x : PyData}, xs.foldl (fun a y => if f a y then y else a) x ∈ x :: xs
  | [], x => List.mem_cons_self
  | y :: ys, x => by
    rw [List.foldl_cons]
    have := best_mem (f := f) (xs := ys) (x := if f x y then y else x)
    rcases List.mem_cons.mp this with e | e
    · rw [e]
      split
      · exact List.mem_cons_of_mem _ List.mem_cons_self
      · exact List.mem_cons_self
    · exact List.mem_cons_of_mem _ (List.mem_cons_of_mem _ e)
theorem room60 {A : Around} {n : Nat} (h : A.units + 64 < cLine) (hn : n ≤ 60) : A.units + 1 + n < cLine := by omega
theorem cb_maxX (O : Ops g X) : CallR X (.builtin "max") (rBest g PySem.W.maxD) := by
  intro pins s σ H xs us Q I r h
  obtain ⟨p, vs, x, ds, rfl, hq, hd, ha, hz, q⟩ := h
  obtain ⟨u, rfl, rx⟩ := vals1 r
  cases rx
  rcases hq with hq | hq
  · obtain ⟨its, rv, pl, _⟩ := I.list (O.K ▸ hq)
    obtain ⟨as, ra⟩ := Dp.readsAll I _ _ its (O.K ▸ hd) rv
    refine PySem.W.max_list_data (I.ok.hd O.calm) pl.isList ra ha (room60 O.hu hz) fun i v h' tk bs hi rr hk => ?_
    obtain ⟨u, h1, h2, h3⟩ := best_at I rv (O.K ▸ hd) hi rr hk best_mem
    exact ⟨u, H, I.kept hk, h2, q i u h1 h3⟩
  · obtain ⟨its, rv, pl, _⟩ := I.tuple (O.K ▸ hq)
    obtain ⟨as, ra⟩ := Dp.readsAll I _ _ its (O.K ▸ hd) rv
    refine PySem.W.max_tuple_data (I.ok.hd O.calm) pl ra ha (room60 O.hu hz) fun i v h' tk bs hi rr hk => ?_
    obtain ⟨u, h1, h2, h3⟩ := best_at I rv (O.K ▸ hd) hi rr hk best_mem
    exact ⟨u, H, I.kept hk, h2, q i u h1 h3⟩
theorem cb_minX (O : Ops g X) : CallR X (.builtin "min") (rBest g PySem.W.minD) := by
  intro pins s σ H xs us Q I r h
  obtain ⟨p, vs, x, ds, rfl, hq, hd, ha, hz, q⟩ := h
  obtain ⟨u, rfl, rx⟩ := vals1 r
  cases rx
  rcases hq with hq | hq
  · obtain ⟨its, rv, pl, _⟩ := I.list (O.K ▸ hq)
    obtain ⟨as, ra⟩ := Dp.readsAll I _ _ its (O.K ▸ hd) rv
    refine PySem.W.min_list_data (I.ok.hd O.calm) pl.isList ra ha (room60 O.hu hz) fun i v h' tk bs hi rr hk => ?_
    obtain ⟨u, h1, h2, h3⟩ := best_at I rv (O.K ▸ hd) hi rr hk (best_mem (f := fun a y => PySem.W.dataLt y a))
    exact ⟨u, H, I.kept hk, h2, q i u h1 h3⟩
  · obtain ⟨its, rv, pl, _⟩ := I.tuple (O.K ▸ hq)
    obtain ⟨as, ra⟩ := Dp.readsAll I _ _ its (O.K ▸ hd) rv
    refine PySem.W.min_tuple_data (I.ok.hd O.calm) pl ra ha (room60 O.hu hz) fun i v h' tk bs hi rr hk => ?_
    obtain ⟨u, h1, h2, h3⟩ := best_at I rv (O.K ▸ hd) hi rr hk (best_mem (f := fun a y => PySem.W.dataLt y a))
    exact ⟨u, H, I.kept hk, h2, q i u h1 h3⟩
theorem alike_all {x : PyData} {xs : List PyData} (h : allAlike (x :: xs) = true) (hn : isNone x = false) : PySem.W.AlikeAll (x :: xs) := by
  unfold allAlike at h
  simp only [List.all_eq_true] at h
  refine ⟨fun a ha b hb => h a ha b hb, fun a ha e => ?_⟩
  subst e
  have := h .none ha x List.mem_cons_self
  cases x <;> simp [W.alike, isNone] at this hn
theorem best_some {f : PyData → List PyData → PyData} {x : PyData} {xs : List PyData} {c : PyData} (h : (if allAlike (x :: xs) && shallow (.list (x :: xs)) && !isNone x then some (f x xs) else none) = some c) :
    PySem.W.AlikeAll (x :: xs) ∧ PyData.depthAll (x :: xs) ≤ 60 ∧ c = f x xs := by
  obtain ⟨h1, h2⟩ := ite_some h
  simp only [Bool.and_eq_true, Bool.not_eq_true'] at h1
  have := shallow_iff.mp h1.1.2
  rw [depth_list] at this
  exact ⟨alike_all h1.1.1 h1.2, by omega, (Option.some.inj h2).symm⟩
theorem ok_best {f : PyData → List PyData → PyData} {k : List PyData → Option PyData} {l : List PyData → Option PyData} {h2 : Int → Int → Int} (hf : ∀ x xs, f x xs ∈ x :: xs)
    (hk : ∀ as c, k as = some c → (∃ i j, as = [.int i, .int j] ∧ c = .int (h2 i j)) ∨ ∃ a, as = [a] ∧ (seqOf a).bind l = some c)
    (hl : ∀ xs c, l xs = some c → ∃ x ys, xs = x :: ys ∧ PySem.W.AlikeAll (x :: ys) ∧ PyData.depthAll (x :: ys) ≤ 60 ∧ c = f x ys) :
    CbOk g k (fun xs H Q => (∃ i j, xs = [.int i, .int j] ∧ Q (.int (h2 i j)) H) ∨ rBest g f xs H Q) := by
  intro gh st H as c vs Q R n e q
  rcases hk as c e with ⟨i, j, rfl, rfl⟩ | ⟨a, rfl, e9⟩
  · obtain ⟨v, u, rfl, m1, m2⟩ := now2 n
    exact .inl ⟨i, j, by rw [now_int m1, now_int m2], ret_old R (.int _) q⟩
  · obtain ⟨v, rfl, m⟩ := now1 n
    obtain ⟨xs, e1, e2⟩ := Option.bind_eq_some_iff.mp e9
    obtain ⟨x, ys, rfl, ha, hz, rfl⟩ := hl xs c e2
    have fin : ∀ {vs : List V}, DpAll g.K gh.F vs (x :: ys) → ∀ (i : Nat) (v : V), vs[i]? = some v → (x :: ys)[i]? = some (f x ys) → Q v H := fun {vs} hd i v hi hv => by
      obtain ⟨u, hd1, hd2⟩ := dps_get hd hv
      rw [hi] at hd1
      cases hd1
      exact ret_old R hd2 q
    cases a <;> simp only [seqOf, reduceCtorEq] at e1
    · cases e1
      obtain ⟨p, ws, rfl, h1, h2⟩ := now_list R.sub m
      exact .inr ⟨p, ws, x, ys, rfl, .inl h1, dps_same R.sub h2, ha, hz, fin h2⟩
    · cases e1
      obtain ⟨p, ws, rfl, h1, _, h2⟩ := now_tup R.sub m
      exact .inr ⟨p, ws, x, ys, rfl, .inr h1, dps_same R.sub h2, ha, hz, fin h2⟩
theorem ok_max : CbOk g maxB (fun xs H Q => (∃ i j, xs = [.int i, .int j] ∧ Q (.int (if j > i then j else i)) H) ∨ rBest g PySem.W.maxD xs H Q) :=
  ok_best (l := maxOf) (fun x xs => best_mem) (fun as c e => by
    unfold maxB at e
    split at e
    · exact .inl ⟨_, _, rfl, (Option.some.inj e).symm⟩
    · exact .inr ⟨_, rfl, e⟩
    · cases e) fun xs c e => by
    cases xs with
    | nil => cases e
    | cons x ys =>
      obtain ⟨h1, h2, h3⟩ := best_some e
      exact ⟨x, ys, rfl, h1, h2, h3⟩
theorem ok_min : CbOk g minB (fun xs H Q => (∃ i j, xs = [.int i, .int j] ∧ Q (.int (if j < i then j else i)) H) ∨ rBest g PySem.W.minD xs H Q) :=
  ok_best (l := minOf) (fun x xs => best_mem (f := fun a y => PySem.W.dataLt y a)) (fun as c e => by
    unfold minB at e
    split at e
    · exact .inl ⟨_, _, rfl, (Option.some.inj e).symm⟩
    · exact .inr ⟨_, rfl, e⟩
    · cases e) fun xs c e => by
    cases xs with
    | nil => cases e
    | cons x ys =>
      obtain ⟨h1, h2, h3⟩ := best_some e
      exact ⟨x, ys, rfl, h1, h2, h3⟩

/-! ### sum, all, any -/
theorem ok_all : CbOk g allB (rAll g.K) := by
  intro gh st H as c vs Q R n e q
  unfold allB at e
  split at e
  · rename_i xs
    obtain ⟨bs, hb, rfl⟩ := Option.map_eq_some_iff.mp e
    obtain ⟨v, rfl, m⟩ := now1 n
    obtain ⟨p, ws, rfl, h1, h2⟩ := now_list R.sub m
    rw [dps_bools h2 hb] at h1
    exact ⟨p, bs, rfl, h1, ret_old R (.bl _) q⟩
  · cases e
theorem ok_any : CbOk g anyB (rAny g.K) := by
  intro gh st H as c vs Q R n e q
  unfold anyB at e
  split at e
  · rename_i xs
    obtain ⟨bs, hb, rfl⟩ := Option.map_eq_some_iff.mp e
    obtain ⟨v, rfl, m⟩ := now1 n
    obtain ⟨p, ws, rfl, h1, h2⟩ := now_list R.sub m
    rw [dps_bools h2 hb] at h1
    exact ⟨p, bs, rfl, h1, ret_old R (.bl _) q⟩
  · cases e
theorem ok_sum : CbOk g sumB (rSum g.K) := by
  intro gh st H as c vs Q R n e q
  unfold sumB at e
  split at e
  · rename_i xs
    obtain ⟨ns, hb, rfl⟩ := Option.map_eq_some_iff.mp e
    obtain ⟨v, rfl, m⟩ := now1 n
    obtain ⟨p, ws, rfl, h1, h2⟩ := now_list R.sub m
    rw [dps_ints h2 hb] at h1
    exact ⟨p, ns, rfl, h1, ret_old R (.int _) q⟩
  · cases e

/-! ### int, str, tuple -/
def rInt : List V → Hp → VK → Prop := fun xs H Q => ((∃ i, xs = [.int i] ∧ Q (.int i) H) ∨ ∃ k, xs = [.bl k] ∧ Q (.int (if k then 1 else 0)) H) ∨ ∃ a n, xs = [.str a] ∧ PySem.intText? a = some n ∧ a.length ≤ 640 ∧ Q (.int n) H
theorem ok_int : CbOk g intB rInt := by
  intro gh st H as c vs Q R n e q
  unfold intB at e
  split at e
  · cases e
    obtain ⟨v, rfl, m⟩ := now1 n
    exact .inl (.inl ⟨_, by rw [now_int m], ret_old R (.int _) q⟩)
  · cases e
    obtain ⟨v, rfl, m⟩ := now1 n
    exact .inl (.inr ⟨_, by rw [now_bool m], ret_old R (.int _) q⟩)
  · obtain ⟨h1, e1⟩ := ite_some e
    obtain ⟨i, h2, rfl⟩ := Option.map_eq_some_iff.mp e1
    obtain ⟨v, rfl, m⟩ := now1 n
    exact .inr ⟨_, _, by rw [now_str m], h2, h1, ret_old R (.int _) q⟩
  · cases e
theorem ok_str : CbOk g strB (fun xs H Q => ∃ i, xs = [.int i] ∧ i.natAbs.log2 < 1920 ∧ Q (.str (toString i)) H) := by
  intro gh st H as c vs Q R n e q
  unfold strB at e
  split at e
  · obtain ⟨h1, e1⟩ := ite_some e
    cases e1
    obtain ⟨v, rfl, m⟩ := now1 n
    exact ⟨_, by rw [now_int m], h1, ret_old R (.str _) q⟩
  · cases e
def signsV (x : Str) : List V := x.cps.toList.map fun c => .str ⟨#[c]⟩
theorem signs_dp {K : PySem.W.Frag} {F : Hp} : ∀ l : List Nat, DpAll K F (l.map fun c => V.str ⟨#[c]⟩) (l.map fun c => PyData.str ⟨#[c]⟩)
  | [] => .nil
  | c :: l => .cons (.str _) (signs_dp l)
theorem vals_of_get : ∀ {xs : List V} {us : List Value}, xs.length = us.length → (∀ (i : Nat) (x : V) (u : Value), xs[i]? = some x → us[i]? = some u → RelV x u) → Vals xs us
  | [], [], _, _ => .nil
  | x :: xs, u :: us, hl, h => .cons (h 0 x u rfl rfl) (vals_of_get (by simpa using hl) fun i y w h1 h2 => h (i + 1) y w (by simpa using h1) (by simpa using h2))
def rTuple (g : G) : List V → Hp → VK → Prop := fun xs H Q => (∃ p ys, xs = [.ref p] ∧ ((SqL g.K H p ys ∧ ∀ l, H l = none → Q (.ref l) (upd H l (.tup ys))) ∨ (SqT g.K H p ys ∧ Q (.ref p) H))) ∨ ∃ z, xs = [.str z] ∧ z.length ≤ sizeLine ∧ ∀ l, H l = none → Q (.ref l) (upd H l (.tup (signsV z)))
theorem cb_tupleX (O : Ops g X) : CallR X (.type "tuple") (rTuple g) := by
  intro pins s σ H xs us Q I r h
  rcases h with h | ⟨z, rfl, hz, q⟩
  · exact call_tuple_of pins s σ H xs us Q I r (O.K ▸ h)
  · obtain ⟨u, rfl, t, rfl⟩ := vals1 r
    refine call_tuple_str (hsz := hz) (I.ok.hd O.calm) z t fun h' tk acc hk hacc => ?_
    have I1 : Inv X pins σ H { s with heap := h' } := I.kept (t' := s.toks) hk
    have rv : Vals (signsV z) acc.toList := vals_of_get (by
      rw [show acc.toList.length = z.cps.size by rw [Array.length_toList]; exact hacc.1]
      simp [signsV]) fun i x u h1 h2 => by
        obtain ⟨c, t, h3, rfl⟩ := hacc.2 i u (by rw [← Array.getElem?_toList]; exact h2)
        unfold signsV at h1
        rw [List.getElem?_map, Array.getElem?_toList, h3] at h1
        cases h1
        exact ⟨_, rfl⟩
    have hl : (signsV z).length ≤ sizeLine := by
      unfold signsV
      rw [List.length_map, Array.length_toList]
      exact hz
    have I2 : Inv X pins σ (upd H h'.objs.size (.tup (signsV z))) { s with heap := h'.push { cls := .type "tuple", data := .seq acc }, toks := tk } :=
      I1.laid (fun b o e => Heap.get?_push_of_some _ e) (Nat.le_refl _) ⟨hl, acc.toList, rv, by
        rw [Array.toArray_toList]
        exact IsTup.new _ _⟩
    exact ⟨.ref h'.objs.size, _, I2, rfl, q _ (I1.hok.fresh (Nat.le_refl _))⟩
theorem ok_tuple : CbOk g tupleB (rTuple g) := by
  intro gh st H as c vs Q R n e q
  unfold tupleB at e
  split at e
  · obtain ⟨h1, e1⟩ := ite_some e
    cases e1
    obtain ⟨v, rfl, m⟩ := now1 n
    exact .inr ⟨_, by rw [now_str m], h1, ret_tup R (signs_dp _) q⟩
  · cases e
    obtain ⟨v, rfl, m⟩ := now1 n
    obtain ⟨p, ws, rfl, h1, h2⟩ := now_list R.sub m
    exact .inl ⟨p, ws, rfl, .inl ⟨h1, ret_tup R h2 q⟩⟩
  · cases e
    obtain ⟨v, rfl, m⟩ := now1 n
    obtain ⟨p, ws, rfl, h1, h1', h2⟩ := now_tup R.sub m
    exact .inl ⟨p, ws, rfl, .inr ⟨h1, ret_old R (.tup h1' h2) q⟩⟩
  · cases e

/-! ### isinstance -/
def tyName : Ty → String
  | .int => "int"
  | .bool => "bool"
  | .str => "str"
  | .tuple => "tuple"
  | .list => "list"
def rIsa (g : G) (T : Ty) : List V → Hp → VK → Prop := fun xs H Q => ∃ x d, xs = [x, .ty (tyName T)] ∧ Dp g.K H x d ∧ Q (.bl (isaD T d)) H
theorem cb_isaX (O : Ops g X) (T : Ty) : CallR X (.builtin "isinstance") (rIsa g T) := by
  intro pins s σ H xs us Q I r h
  obtain ⟨x, d, rfl, hd, q⟩ := h
  obtain ⟨u1, u2, rfl, r1, r2⟩ := vals2 r
  cases r2
  obtain ⟨as, rr⟩ := Dp.reads I d x u1 (O.K ▸ hd) r1
  have fin : ∀ tk (b : Bool), b = isaD T d → EP X pins σ Q (.bool b) { s with toks := tk } := fun tk b e => by
    subst e
    exact ⟨.bl _, H, I.tok tk, rfl, q⟩
  cases T with
  | int => exact PySem.W.isinstance_int_data rr fun tk _ => fin tk _ (by cases d <;> rfl)
  | bool => exact PySem.W.isinstance_bool_data rr fun tk _ => fin tk _ (by cases d <;> rfl)
  | str => exact PySem.W.isinstance_str_data rr fun tk _ => fin tk _ (by cases d <;> rfl)
  | tuple => exact PySem.W.isinstance_tuple_data rr fun tk _ => fin tk _ (by cases d <;> rfl)
  | list => exact PySem.W.isinstance_list_data rr fun tk _ => fin tk _ (by cases d <;> rfl)
end Ev

set_option Elab.async false
set_option linter.all false
set_option maxRecDepth 100000
set_option maxHeartbeats 1000000
/-! Methods. -/
namespace Ev
open PySem PySem.Spec PyProof.Rows L2
open AutoSeq1 (wpAny_loadPart')
variable {g : G} {cl : Calls} {X : Cx}

/-! ### a method by what the value is -/
structure MF (X : Cx) (T : String) (name : Str) (id : String) (r : V → List V → Hp → VK → Prop) : Prop where
  pa : PlainAttrs T
  slot : Slot T name id
  hty : typeOf (.builtin id) = pure (.type "method_descriptor")
  hm : MtR X id r
def TyOk (X : Cx) (T : String) (x : V) (H : Hp) : Prop := ∀ (pins : List (Addr × Obj)) (s : Shared) (σ : L2.St) (v : Value), Inv X pins σ H s → RelV x v → s.TypeIs v T ∧ ∀ a, v = .ref a → ∃ ob, s.heap.get? a = some ob ∧ ob.dict = none
def tBMG (X : Cx) (name : Str) (to : TE) (t : TA) : TE := fun σ H Q => to σ H fun x H1 => ∃ T id r, MF X T name id r ∧ TyOk X T x H1 ∧ t σ H1 fun xs H2 => r x xs H2 Q
section
variable {o e : Expr} {es : List Expr} {to : TE} {t : TA} {name : Str} {apos cpos : Pos}
theorem pe_bmg0 (ho : PE X o to) (hbase : attributeBase o name X.env (eval o X.env) = eval o X.env) (hline : (apos.endLine == cpos.line) = true) : PE X (.Call (.Attribute o name apos) [] [] cpos) (tBMG X name to tNil) := by
  refine ⟨fun pins s σ H Q I h => ?_⟩
  refine wpAny_Call_method0_late hbase hline (thn (ho.run pins s σ H _ I h) fun v s1 ⟨x, H1, I1, r1, T, id, r, mf, ty, q1⟩ => ?_)
  obtain ⟨h1, h2⟩ := ty pins s1 σ v I1 r1
  exact ⟨T, id, mf.pa, mf.slot, mf.hty, h1, h2, Calls.callWith_builtin rfl (PySem.evalArgs_none (mf.hm pins s1 σ H1 x [] v [] Q I1 r1 .nil q1))⟩
theorem pe_bmg (ho : PE X o to) (ha : PA X (e :: es) t) (hbase : attributeBase o name X.env (eval o X.env) = eval o X.env)
    (hfew : ((backTo cpos (starEach (e :: es) X.env)).all (fun x => !x.1) && (backToKw cpos (keywordEach [] X.env)).all (fun x => x.1.isSome)
      && decide ((e :: es).length + ([] : List Keyword).length + (if ([] : List Keyword).isEmpty then 0 else 1) < 30)) = true)
    (hline : (apos.endLine == cpos.line) = true) (hs : starEach (e :: es) X.env = (false, eval e X.env) :: starEach es X.env) (hplain : (backTo cpos (starEach es X.env)).any (·.1) = false) :
    PE X (.Call (.Attribute o name apos) (e :: es) [] cpos) (tBMG X name to t) := by
  refine ⟨fun pins s σ H Q I h => ?_⟩
  refine wpAny_Call_method_late hbase hfew hline rfl (thn (ho.run pins s σ H _ I h) fun v s1 ⟨x, H1, I1, r1, T, id, r, mf, ty, q1⟩ => ?_)
  obtain ⟨h1, h2⟩ := ty pins s1 σ v I1 r1
  refine ⟨T, id, mf.pa, mf.slot, mf.hty, h1, h2, ?_⟩
  have hA := ha.run cpos pins s1 σ H1 _ I1 q1
  rw [hs] at hA ⊢
  refine Calls.callWith_builtin (by show (false || (backTo cpos (starEach es X.env)).any (·.1)) = false; rw [hplain] <;> rfl) (Calls.evalArgs_plain ?_)
  exact thn hA fun us s2 ⟨vs, H2, I2, r2, q2⟩ => mf.hm pins s2 σ H2 x vs v us Q I2 r1 r2 q2
end
theorem base_of {o : Expr} (h : baseOk o = true) (name : Str) (env : PySem.Env) (whole : Sem Value) : attributeBase o name env whole = whole := by
  unfold attributeBase
  split
  · cases h
  · rfl
theorem star_all : ∀ {es : List Expr} {env : PySem.Env} {pos : Pos}, es.any isStar = false → (backTo pos (starEach es env)).all (fun x => !x.1) = true
  | [], _, _, _ => rfl
  | e :: es, env, pos, h => by
    rw [List.any_cons, Bool.or_eq_false_iff] at h
    rw [star_cons h.1]
    show (!false && (backTo pos (starEach es env)).all (fun x => !x.1)) = true
    rw [star_all h.2]
    rfl
theorem few_ok {e : Expr} {es : List Expr} {env : PySem.Env} {pos : Pos} (h : (e :: es).any isStar = false) (hl : (e :: es).length < 20) :
    ((backTo pos (starEach (e :: es) env)).all (fun x => !x.1) && (backToKw pos (keywordEach [] env)).all (fun x => x.1.isSome)
      && decide ((e :: es).length + ([] : List Keyword).length + (if ([] : List Keyword).isEmpty then 0 else 1) < 30)) = true := by
  rw [star_all h, Bool.true_and]
  show (true && decide ((e :: es).length + 0 + 0 < 30)) = true
  rw [Bool.true_and]
  exact decide_eq_true (by omega)
theorem pe_meth {o e : Expr} {es : List Expr} {to : TE} {t : TA} {name : Str} {apos cpos : Pos} (ho : PE X o to) (ha : PA X (e :: es) t) (hb : baseOk o = true) (hline : (apos.endLine == cpos.line) = true) (hs : (e :: es).any isStar = false) (hl : (e :: es).length < 20) :
    PE X (.Call (.Attribute o name apos) (e :: es) [] cpos) (tBMG X name to t) := by
  have hs' := hs
  rw [List.any_cons, Bool.or_eq_false_iff] at hs'
  exact pe_bmg ho ha (base_of hb ..) (few_ok hs hl) hline (star_cons hs'.1) (star_plain hs'.2)

/-! ### what has which methods -/
theorem ty_list {gh : Gh} {H : Hp} {v : V} {ds : List PyData} (O : Ops g X) (R : Same gh.F H) (n : Now g gh H v (.list ds)) : TyOk X "list" v H := by
  obtain ⟨p, vs, rfl, h1, h2⟩ := now_list R n
  intro pins s σ v I r
  exact tyV_is I r (.inl ⟨rfl, vs, O.K ▸ h1⟩)
theorem ty_str {gh : Gh} {H : Hp} {v : V} {z : Str} (n : Now g gh H v (.str z)) : TyOk X "str" v H := by
  cases now_str n
  intro pins s σ v I r
  exact tyV_is I r (show tyV X.K "str" (.str z) H from rfl)
theorem ty_dict {gh : Gh} {H : Hp} {v : V} {kvs : List (PyData × PyData)} (O : Ops g X) (R : Same gh.F H) (n : Now g gh H v (.dict kvs)) : TyOk X "dict" v H := by
  obtain ⟨p, o, rfl, h1, d⟩ := now_dict R n
  intro pins s σ v I r
  cases r
  have z : ∃ o, s.heap.get? p = some o ∧ o.ExactDict := by
    rcases dict_sorts d with ht | ht
    · obtain ⟨ys, ⟨ob, es, ep, e1, e2, _⟩, _⟩ := view_nest O I R h1 d ht
      exact ⟨ob, e1, e2⟩
    · obtain ⟨ys, ws, _, _, ⟨ob, es, ep, e1, e2, _⟩, _⟩ := view_leaf I h1 d ht
      exact ⟨ob, e1, e2⟩
  obtain ⟨ob, e, ex⟩ := z
  refine ⟨⟨ob, e, ex.1⟩, fun a e2 => ?_⟩
  cases e2
  exact ⟨ob, e, ex.2.1⟩
theorem ty_kd {gh : Gh} {H : Hp} {v : V} {a : PyData} {kd : Kd} (O : Ops g X) (R : Same gh.F H) (n : Now g gh H v a) (h : kdOf a = some kd) : TyOk X (match kd with | .str => "str" | .list => "list" | .dict => "dict") v H := by
  cases a <;> simp only [kdOf, reduceCtorEq] at h <;> cases h
  · exact ty_str n
  · exact ty_list O R n
  · exact ty_dict O R n
def kdName : Kd → String
  | .str => "str"
  | .list => "list"
  | .dict => "dict"
theorem ty_kdn {gh : Gh} {H : Hp} {v : V} {a : PyData} {kd : Kd} (O : Ops g X) (R : Same gh.F H) (n : Now g gh H v a) (h : kdOf a = some kd) : TyOk X (kdName kd) v H := by
  have := ty_kd O R n h
  cases kd <;> exact this

/-! ### methods that change nothing -/
def MkOk (g : G) (X : Cx) (name : Str) (k : Kd → List PyData → Option PyData) : Prop := ∀ (kd : Kd) (ds : List PyData) (c : PyData), k kd ds = some c → ∃ id r, MF X (kdName kd) name id r ∧
  CbOk g (fun as => k kd as) (fun vs H Q => ∃ v us, vs = v :: us ∧ r v us H Q)
theorem derefs_cons {w : W} {ws : List W} {st st' : Store} {ds : List PyData} (h : derefs (w :: ws) st = .ok ds st') : ∃ d es, ds = d :: es := by
  obtain ⟨x, st1, e1, f1⟩ := bind_ok (f := deref w) h
  obtain ⟨xs, st2, e2, f2⟩ := bind_ok (f := derefs ws) f1
  obtain ⟨rfl, rfl⟩ := pure_ok f2
  exact ⟨_, _, rfl⟩
theorem t_meth {name : Str} {k : Kd → List PyData → Option PyData} {f : Sm W} {gs : List (Sm W)} {σ : L2.St} {H : Hp} {Q : VK} (O : Ops g X) (hk : MkOk g X name k) (t : tD g cl (eMeth f gs k) σ H Q) : tBMG X name (tD g cl f) (tWs g cl (evalsR gs)) σ H Q := by
  obtain ⟨ρ, gh, st, w, st', re, R, e, q⟩ := t
  obtain ⟨x, st1, e1, f1⟩ := bind_ok e
  obtain ⟨a0, st2, e2, f2⟩ := bind_ok f1
  obtain ⟨kd, st3, e3, f3⟩ := bind_ok f2
  obtain ⟨us, st4, e4, f4⟩ := bind_ok f3
  obtain ⟨ds, st5, e5, f5⟩ := bind_ok f4
  obtain ⟨c, st6, e6, f6⟩ := bind_ok f5
  obtain ⟨rfl, rfl⟩ := pure_ok f6
  obtain ⟨k3, h3⟩ := opt_ok e3
  obtain ⟨k6, h6⟩ := opt_ok e6
  subst h3 h6
  obtain ⟨id, r, mf, hr⟩ := hk kd ds c k6
  refine ⟨ρ, gh, st, x, st1, re, R, e1, fun v gh1 H1 S1 R1 r1 => ?_⟩
  obtain ⟨rfl, n⟩ := deref_now R1 r1 e2
  refine ⟨kdName kd, id, r, mf, ty_kdn O R1.sub n k3, ρ, gh1, _, us, st4, re.mono S1, R1, e4, fun vs gh2 H2 S2 R2 r2 => ?_⟩
  obtain ⟨rfl, ns⟩ := derefs_now R2 (ws := x :: us) (vs := v :: vs) ⟨r1.mono S2, r2⟩ e5
  obtain ⟨v', us', e7, h7⟩ := hr gh2 _ H2 ds c (v :: vs) Q R2 ns k6 fun z gh3 H3 S3 R3 d => q z gh3 H3 ((S1.trans R R1 S2).trans R R2 S3) R3 d
  cases e7
  exact h7

/-! ### index, join, get -/
def rIdx (g : G) (tp : Bool) : V → List V → Hp → VK → Prop := fun x xs H Q => ∃ p y d vs ds j, x = .ref p ∧ xs = [y] ∧ (match tp with | true => SqT g.K H p vs | false => SqL g.K H p vs) ∧ DpAll g.K H vs ds ∧ Dp g.K H y d ∧ d.depth ≤ 60 ∧
  SeqAt.dataPlace ds d = some j ∧ Q (.int (j : Nat)) H
theorem mt_idxL (O : Ops g X) : MtR X "list.index" (rIdx g false) := by
  intro pins s σ H x xs v us Q I rx rxs h
  obtain ⟨p, y, d, vs, ds, j, rfl, rfl, hq, hds, hd, hz, hj, q⟩ := h
  cases rx
  obtain ⟨u, rfl, ru⟩ := rxs.one
  have hu := O.hu
  obtain ⟨its, rv, ⟨⟨cls, dd, data, sls⟩, n, ho, hc, hdn, hdt⟩, hlen⟩ := I.list (O.K ▸ hq)
  simp only at hc hdt
  subst hc hdt
  obtain ⟨as, ra⟩ := Dp.readsAll I ds vs its (O.K ▸ hds) rv
  obtain ⟨bs, rd⟩ := Dp.reads I d y u (O.K ▸ hd) ru
  have ra' : ReadsAll s.heap its.toArray.toList ds as := ra
  obtain ⟨hjl, h1, h2⟩ := SeqAt.hit_at ra' (dps_plain hds) hj
  have hsz : its.toArray.size ≤ sizeLine := by rw [List.size_toArray, ← rv.length]; exact hlen
  rw [sizeLine_eq] at hsz
  have hroom : X.A.units + 1 + min (PyData.depthAll ds) d.depth < cLine := by
    have : min (PyData.depthAll ds) d.depth ≤ d.depth := Nat.min_le_right _ _
    omega
  exact call_meets PySem.F.slot_list_index ⟨_, ho, rfl⟩ PySem.F.entry_list_index (PySem.F.args_list_index_2 _ _) (SeqAt.list_indexAt p its.toArray n dd sls u _ j hjl (by omega) h1 h2)
    ⟨ho, SeqAt.items_plain ra' rd (dps_plain hds) (dp_plain hd) hroom, .int (j : Nat), H, I.tok _, ⟨_, rfl⟩, q⟩
theorem mt_idxT (O : Ops g X) : MtR X "tuple.index" (rIdx g true) := by
  intro pins s σ H x xs v us Q I rx rxs h
  obtain ⟨p, y, d, vs, ds, j, rfl, rfl, hq, hds, hd, hz, hj, q⟩ := h
  cases rx
  obtain ⟨u, rfl, ru⟩ := rxs.one
  have hu := O.hu
  obtain ⟨its, rv, ⟨⟨cls, dd, data, sls⟩, ho, hc, n, hdt⟩, hlen⟩ := I.tuple (O.K ▸ hq)
  simp only at hc hdt
  subst hc hdt
  obtain ⟨as, ra⟩ := Dp.readsAll I ds vs its (O.K ▸ hds) rv
  obtain ⟨bs, rd⟩ := Dp.reads I d y u (O.K ▸ hd) ru
  have ra' : ReadsAll s.heap its.toArray.toList ds as := ra
  obtain ⟨hjl, h1, h2⟩ := SeqAt.hit_at ra' (dps_plain hds) hj
  have hroom : X.A.units + 1 + min (PyData.depthAll ds) d.depth < cLine := by
    have : min (PyData.depthAll ds) d.depth ≤ d.depth := Nat.min_le_right _ _
    omega
  exact call_meets PySem.F.slot_tuple_index ⟨_, ho, rfl⟩ PySem.F.entry_tuple_index (PySem.F.args_tuple_index_2 _ _) (TI.tuple_indexAt p its.toArray n dd sls u _ j hjl h1 h2)
    ⟨ho, SeqAt.items_plain ra' rd (dps_plain hds) (dp_plain hd) hroom, .int (j : Nat), H, I.tok _, ⟨_, rfl⟩, q⟩
theorem sh_dp {gh : Gh} {H : Hp} {v : V} {x : PyData} (R : Same gh.F H) (n : Now g gh H v x) (h : (shallow x && !isDict x) = true) : Dp g.K H v x ∧ x.depth ≤ 60 := by
  simp only [Bool.and_eq_true, Bool.not_eq_true'] at h
  exact ⟨now_dp R n (isDict_iff h.2), shallow_iff.mp h.1⟩
theorem mk_index (O : Ops g X) : MkOk g X "index" indexM := by
  intro kd ds c h
  cases kd <;> simp only [indexM, reduceCtorEq] at h
  refine ⟨"list.index", rIdx g false, ⟨PySem.F.plainAttrs_list, PySem.F.slot_list_index, PySem.F.type_list_index, mt_idxL O⟩, ?_⟩
  intro gh st H as c vs Q R n e q
  have f : indexB as = some c := e
  unfold indexB at f
  split at f
  · rename_i xs y
    obtain ⟨h1, e1⟩ := ite_some f
    obtain ⟨j, hj, rfl⟩ := Option.map_eq_some_iff.mp e1
    obtain ⟨v, u, rfl, m1, m2⟩ := now2 n
    obtain ⟨p, ws, rfl, k1, k2⟩ := now_list R.sub m1
    obtain ⟨hd, hz⟩ := sh_dp R.sub m2 h1
    exact ⟨_, _, rfl, p, u, y, ws, xs, j, rfl, rfl, k1, dps_same R.sub k2, hd, hz, hj, ret_old R (.int _) q⟩
  · cases f
theorem mk_join (O : Ops g X) : MkOk g X "join" joinM := by
  intro kd ds c h
  cases kd <;> simp only [joinM, reduceCtorEq] at h
  refine ⟨"str.join", _, ⟨PySem.F.plainAttrs_str, PySem.F.slot_str_join, PySem.F.type_str_join, mt_join⟩, ?_⟩
  intro gh st H as c vs Q R n e q
  have f : joinB as = some c := e
  unfold joinB at f
  split at f
  · rename_i sep xs
    obtain ⟨ss, h1, h2⟩ := Option.bind_eq_some_iff.mp f
    obtain ⟨h3, h4⟩ := ite_some h2
    cases h4
    obtain ⟨v, u, rfl, m1, m2⟩ := now2 n
    obtain ⟨p, ws, rfl, k1, k2⟩ := now_list R.sub m2
    rw [dps_strs k2 h1] at k1
    exact ⟨_, _, rfl, _, p, ss, now_str m1, rfl, .inl (O.K ▸ k1), by rw [sizeLine_eq] at h3; exact h3, ret_old R (.str _) q⟩
  · cases f
theorem get_leaf {F : Hp} {n : Key} {kvs : List (PyData × PyData)} {xs : List (Key × V)} {vs : List (Key × Value)} {z : V} {u : Value} {d : PyData} (h1 : Paired (LP g F) kvs xs) (h2 : KV xs vs) (rz : RelV z u) (hz : Dp g.K F z d) :
    ∃ v, RelV v ((valueAt vs n).getD u) ∧ Dp g.K F v ((getK kvs (keyDat n)).getD d) := by
  cases e : getK kvs (keyDat n) with
  | none =>
    rw [leaf_none h1 h2 e]
    exact ⟨z, rz, hz⟩
  | some c =>
    obtain ⟨v, w, _, e2, e3, e4⟩ := leaf_val h1 h2 e
    rw [e2]
    exact ⟨v, e3, e4⟩
theorem get_nest {F : Hp} {k : PyData} {kvs : List (PyData × PyData)} {xs : List (NestedKey × Addr × Value)} {z : V} {u : Value} {d : PyData} (hk : keyed k = true) (h : Paired (NP g F) kvs xs) (rz : RelV z u) (hz : Dp g.K F z d) :
    ∃ v, RelV v ((valueAt (pairsH xs) (toNK k)).getD u) ∧ Dp g.K F v ((getK kvs k).getD d) := by
  rw [valueAt_pairsH]
  cases e : getK kvs k with
  | none =>
    rw [nest_none hk h e]
    exact ⟨z, rz, hz⟩
  | some c =>
    obtain ⟨v, p, e2, e3, e4⟩ := nest_val hk h e
    rw [e2]
    exact ⟨v, e3, e4⟩
theorem mt_getD (O : Ops g X) : MtR X "dict.get" (rGetD g) := by
  intro pins s σ H x xs v us Q I rx rxs h
  obtain ⟨F, kvs, k, p, y, ka, h⟩ := h
  have hy := ka.1
  rcases h with ⟨rfl, q⟩ | ⟨z, d, rfl, hz, q⟩
  · obtain ⟨u, rfl, ry⟩ := rxs.one
    rcases key_cases O I ka ry with ⟨n, xs, vs, rfl, rfl, h1, h2, h3, h4, _⟩ | ⟨b, xs, rfl, rfl, k1, k2, k3, h1, h2, h3, h4, _⟩
    · subst hy
      cases rx
      obtain ⟨z, e1, e2⟩ := get_leaf (n := n) h1 h2 (z := .non) (u := .none) rfl .non
      exact call_meetsIn PySem.F.slot_dict_get h3.typeIs PySem.F.entry_dict_get (PySem.F.args_dict_get_2 _ _) (meets_dict_get (mixKind X.prog X.w) p (kV_is ry) h4) ⟨_, h3.mapOf, z, H, I.tok _, e1, q z e2⟩
    · subst hy
      cases rx
      obtain ⟨z, e1, e2⟩ := get_nest k1 h3 (z := .non) (u := .none) rfl .non
      exact PySem.get_keyed (room_n O.hu) h1 h4 ⟨_, h2, rfl⟩ ⟨z, H, I.tok _, e1, q z e2⟩
  · obtain ⟨u, u2, rfl, ry, rz⟩ := rxs.two
    rcases key_cases O I ka ry with ⟨n, xs, vs, rfl, rfl, h1, h2, h3, h4, _⟩ | ⟨b, xs, rfl, rfl, k1, k2, k3, h1, h2, h3, h4, _⟩
    · subst hy
      cases rx
      obtain ⟨z, e1, e2⟩ := get_leaf (n := n) h1 h2 rz hz
      exact call_meetsIn PySem.F.slot_dict_get h3.typeIs PySem.F.entry_dict_get (PySem.F.args_dict_get_3 _ _ _) (meets_dict_get_default (mixKind X.prog X.w) p (kV_is ry) h4 _) ⟨_, h3.mapOf, z, H, I.tok _, e1, q z e2⟩
    · subst hy
      cases rx
      obtain ⟨z, e1, e2⟩ := get_nest k1 h3 rz hz
      exact PySem.getOr_keyed (room_n O.hu) h1 h4 ⟨_, h2, rfl⟩ ⟨z, H, I.tok _, e1, q z e2⟩
theorem mk_get (O : Ops g X) : MkOk g X "get" getM := by
  intro kd ds c h
  cases kd <;> simp only [getM, reduceCtorEq] at h
  refine ⟨"dict.get", rGetD g, ⟨PySem.F.plainAttrs_dict, PySem.F.slot_dict_get, PySem.F.type_dict_get, mt_getD O⟩, ?_⟩
  intro gh st H as c vs Q R n e q
  have f : getB as = some c := e
  unfold getB at f
  split at f
  · rename_i kvs k
    obtain ⟨h1, e1⟩ := ite_some f
    cases e1
    obtain ⟨v, u, rfl, m1, m2⟩ := now2 n
    obtain ⟨p, rfl, hd⟩ := now_dict' R.sub m1
    exact ⟨_, _, rfl, gh.F, kvs, k, p, u, ⟨rfl, R.sub, hd, h1, now_key m2 (fits_ok h1).1⟩, .inl ⟨rfl, fun v hv => ret_old R hv q⟩⟩
  · rename_i kvs k x
    obtain ⟨h1, e1⟩ := ite_some f
    cases e1
    rw [Bool.and_eq_true] at h1
    cases n with
    | cons m1 t =>
      obtain ⟨u, z, rfl, m2, m3⟩ := now2 t
      obtain ⟨p, rfl, hd⟩ := now_dict' R.sub m1
      exact ⟨_, _, rfl, gh.F, kvs, k, p, u, ⟨rfl, R.sub, hd, h1.1, now_key m2 (fits_ok h1.1).1⟩, .inr ⟨z, x, rfl, now_key m3 h1.2, fun v hv => ret_old R hv q⟩⟩
  · cases f

/-! ### methods that change a box -/
def MxOk (g : G) (X : Cx) (name : Str) (k : Kd → PyData → List PyData → Option (PyData × PyData)) : Prop := ∀ (kd : Kd) (a : PyData) (ds : List PyData) (r : PyData × PyData), k kd a ds = some r → ∃ id rr, MF X (kdName kd) name id rr ∧
  ∀ (F H : Hp) (p : Addr) (vs : List V) (Q : VK), Same F H → CellOk g F H ⟨a, .live⟩ p → DpAll g.K F vs ds → (∀ u o, CellOk g F (upd H p o) ⟨r.1, .live⟩ p → Dp g.K F u r.2 → Q u (upd H p o)) → rr (.ref p) vs H Q
theorem live_at {w : W} {st st' : Store} {p : Nat × PyData} (h : liveAt w st = .ok p st') : st' = st ∧ w = .bx p.1 ∧ st[p.1]? = some ⟨p.2, .live⟩ := by
  cases w with
  | bx n =>
    cases hc : st[n]? with
    | none => simp only [liveAt, hc] at h; cases h
    | some c =>
      obtain ⟨cv, cs⟩ := c
      cases cs with
      | live =>
        simp only [liveAt, hc] at h
        cases h
        exact ⟨rfl, rfl, hc⟩
      | lock => simp only [liveAt, hc] at h; cases h
      | shut => simp only [liveAt, hc] at h; cases h
  | d x => cases h
  | fn i => cases h
theorem set_box {n : Nat} {v v0 : PyData} {st st' : Store} {u : Unit} (h0 : st[n]? = some ⟨v0, .live⟩) (h : setBox n v st = .ok u st') : st' = st.set n ⟨v, .live⟩ := by
  simp only [setBox, h0] at h
  cases h
  rfl
theorem cell_free {F H : Hp} {a : PyData} {p : Addr} (c : CellOk g F H ⟨a, .live⟩ p) : F p = none := by
  unfold CellOk at c
  split at c
  · exact c.choose_spec.2.2.2 (by intro z; cases z)
  · exact c.2.1
  · exact c.elim
theorem t_mut {name : Str} {k : Kd → PyData → List PyData → Option (PyData × PyData)} {f : Sm W} {gs : List (Sm W)} {σ : L2.St} {H : Hp} {Q : VK} (O : Ops g X) (hk : MxOk g X name k) (t : tD g cl (eMut f gs k) σ H Q) : tBMG X name (tD g cl f) (tDs g cl (evalsD gs)) σ H Q := by
  obtain ⟨ρ, gh, st, w, st', re, R, e, q⟩ := t
  obtain ⟨x, st1, e1, f1⟩ := bind_ok e
  obtain ⟨a0, st2, e2, f2⟩ := bind_ok f1
  obtain ⟨kd, st3, e3, f3⟩ := bind_ok f2
  obtain ⟨us, st4, e4, f4⟩ := bind_ok f3
  obtain ⟨p, st5, e5, f5⟩ := bind_ok f4
  obtain ⟨r, st6, e6, f6⟩ := bind_ok f5
  obtain ⟨u0, st7, e7, f7⟩ := bind_ok f6
  obtain ⟨rfl, rfl⟩ := pure_ok f7
  obtain ⟨k3, h3⟩ := opt_ok e3
  obtain ⟨k6, h6⟩ := opt_ok e6
  obtain ⟨h5, rfl, hc⟩ := live_at e5
  subst h3 h6
  subst h5
  have h7 := set_box hc e7
  subst h7
  obtain ⟨id, rr, mf, hr⟩ := hk kd p.2 us r k6
  refine ⟨ρ, gh, st, _, st1, re, R, e1, fun v gh1 H1 S1 R1 r1 => ?_⟩
  obtain ⟨rfl, n⟩ := deref_now R1 r1 e2
  refine ⟨kdName kd, id, rr, mf, ty_kdn O R1.sub n k3, ρ, gh1, _, us, _, re.mono S1, R1, e4, fun vs gh2 H2 S2 R2 r2 => ?_⟩
  obtain ⟨a, ha, rfl⟩ := r1.mono S2
  have hcell := R2.cell p.1 _ a hc ha
  refine hr gh2.F H2 a vs Q R2.sub hcell r2 fun u o hn hu => ?_
  obtain ⟨R3, S3⟩ := R2.write hc ha (cell_free hcell) o hn
  exact q u gh2 _ ((S1.trans R R1 S2).trans R R2 S3) R3 hu
theorem cell_lst {F H : Hp} {ds : List PyData} {p : Addr} (c : CellOk g F H ⟨.list ds, .live⟩ p) : ∃ vs, H p = some (.lst vs) ∧ DpAll g.K F vs ds ∧ F p = none := by
  obtain ⟨vs, h1, h2, _, h4⟩ := c
  exact ⟨vs, h1, h2, h4 (by intro z; cases z)⟩
theorem cell_new {F H : Hp} {ds : List PyData} {vs : List V} {p : Addr} (d : DpAll g.K F vs ds) (hF : F p = none) : CellOk g F (upd H p (.lst vs)) ⟨.list ds, .live⟩ p :=
  ⟨vs, upd_same, d, (fun z => CSt.noConfusion z), fun _ => hF⟩
theorem cell_dct {F H : Hp} {kvs : List (PyData × PyData)} {p : Addr} (c : CellOk g F H ⟨.dict kvs, .live⟩ p) : DAt g F H p kvs ∧ F p = none := by
  obtain ⟨_, h1, o, h2, h3⟩ := c
  exact ⟨⟨o, h2, h3⟩, h1⟩
theorem cell_newD {F H : Hp} {kvs : List (PyData × PyData)} {o : HO} {p : Addr} (d : DictAt g F p o kvs) (hF : F p = none) : CellOk g F (upd H p o) ⟨.dict kvs, .live⟩ p :=
  ⟨(fun z => CSt.noConfusion z), hF, o, upd_same, d⟩
theorem dps1 {K : PySem.W.Frag} {F : Hp} {vs : List V} {d : PyData} (h : DpAll K F vs [d]) : ∃ v, vs = [v] ∧ Dp K F v d := by
  cases h with
  | cons h t =>
    cases t
    exact ⟨_, rfl, h⟩
theorem mx_append : MxOk g X "append" appendK := by
  intro kd a ds r h
  unfold appendK at h
  split at h
  · rename_i xs x
    obtain ⟨h1, h2⟩ := ite_some h
    cases h2
    refine ⟨"list.append", rAppend, ⟨PySem.F.plainAttrs_list, PySem.F.slot_list_append, PySem.F.type_list_append, mt_append⟩, fun F H p vs Q sF c d q => ?_⟩
    obtain ⟨ws, k1, k2, k3⟩ := cell_lst c
    obtain ⟨v, rfl, hv⟩ := dps1 d
    exact ⟨p, ws, v, rfl, rfl, k1, by rw [dps_len k2]; exact h1, q _ _ (cell_new (dps_app k2 (dps_one hv)) k3) .non⟩
  · cases h
theorem mx_pop : MxOk g X "pop" popK := by
  intro kd a ds r h
  unfold popK at h
  split at h
  · rename_i xs
    obtain ⟨y, h1, h2⟩ := Option.map_eq_some_iff.mp h
    cases h2
    refine ⟨"list.pop", rPop, ⟨PySem.F.plainAttrs_list, PySem.F.slot_list_pop, PySem.F.type_list_pop, mt_pop⟩, fun F H p vs Q sF c d q => ?_⟩
    obtain ⟨ws, k1, k2, k3⟩ := cell_lst c
    cases d
    rw [← dps_len k2] at h1
    obtain ⟨u, k4, k5⟩ := dps_get k2 h1
    exact ⟨p, ws, u, rfl, rfl, k1, k4, q _ _ (cell_new (dps_dropLast k2) k3) k5⟩
  · cases h
def rPopD (g : G) : V → List V → Hp → VK → Prop := fun x xs H Q => ∃ F kvs k p y d, KeyAt g H y x F kvs k p ∧ xs = [y] ∧ getK kvs k = some d ∧ ∀ v o, Dp g.K F v d → DictAt g F p o (kvs.filter fun kv => !PyData.eqv kv.1 k) → Q v (upd H p o)
theorem mt_popD (O : Ops g X) : MtR X "dict.pop" (rPopD g) := by
  intro pins s σ H x xs v us Q I rx rxs h
  obtain ⟨F, kvs, k, p, y, d, ka, rfl, hg, q⟩ := h
  have hy := ka.1
  obtain ⟨u, rfl, ry⟩ := rxs.one
  rcases key_cases O I ka ry with ⟨n, xs, vs, rfl, rfl, h1, h2, h3, h4, h5, mu⟩ | ⟨b, xs, rfl, rfl, k1, k2, k3, h1, h2, h3, h4, h5, mu⟩
  · subst hy
    cases rx
    obtain ⟨z, w, _, e2, e3, e4⟩ := leaf_val h1 h2 hg
    have hp : (keyPart u).isSome = true := by
      cases n with
      | inl i => obtain ⟨t, q⟩ := (show ∃ t, u = Value.int i t from ry); subst q; rfl
      | inr x => obtain ⟨t, q⟩ := (show ∃ t, u = Value.str x t from ry); subst q; rfl
    refine call_meetsIn PySem.F.slot_dict_pop h3.typeIs PySem.F.entry_dict_pop (PySem.F.args_dict_pop_2 _ _) (meets_dict_pop_there (mixKind X.prog X.w) p (kV_is ry) [] (.inl rfl) hp)
      ⟨vs, w, h3, by rw [← h2.length, ← Paired.length h1]; exact h5, e2, fun h' dd' hs => ?_⟩
    have he : ∃ q, h'.get? p = some q := let ⟨q, _, _, hq, _⟩ := dd'; ⟨q, hq⟩
    have new := leaf_drop n h1
    exact ⟨z, _, d_write (t' := s.toks + 1) I mu hs he (dk_new (by rw [← Paired.length new]; exact Nat.le_trans (List.length_filter_le _ _) h5) h4 (h2.drop n) dd'), e3, q z _ e4 (.inl ⟨_, rfl, new⟩)⟩
  · subst hy
    cases rx
    obtain ⟨z, r, e1, e3, e4⟩ := nest_val k1 h3 hg
    refine PySem.call_pop_heap (.inl rfl) (PySem.F.args_dict_pop_2 _ _) (room_n O.hu) h1 h4 h2 e1 (fun h' dd' hs => ?_) (by rw [← Paired.length h3]; exact h5)
    obtain ⟨ob, es, ep, f1, f2, f3, f4, f5, f6⟩ := dd'
    have new := nest_drop (toNK k) h3
    rw [data_toNK k1] at new
    refine ⟨z, _, d_write (ob := known p ob) (t' := s.toks + (nestedKind X.prog X.w).draws (toNK k)) I mu hs ⟨ob, f1⟩ ⟨f1, ⟨ob, f1⟩, fun a1 a2 x y => y _ x⟩, e3, q z _ e4 (.inr ⟨ob, rfl, h4, f2, Nat.le_trans (List.length_filter_le _ _) h5, es, ep, f3, _, ?_, f6, new⟩)⟩
    rw [← O.P, ← O.w]
    exact f4
theorem mx_popAt (O : Ops g X) : MxOk g X "pop" popAtK := by
  intro kd a ds r h
  unfold popAtK at h
  split at h
  · rename_i xs i
    obtain ⟨h1, h2⟩ := ite_some h
    obtain ⟨k, h3, h4⟩ := Option.bind_eq_some_iff.mp h2
    obtain ⟨y, h5, h6⟩ := Option.map_eq_some_iff.mp h4
    cases h6
    refine ⟨"list.pop", rPopAt, ⟨PySem.F.plainAttrs_list, PySem.F.slot_list_pop, PySem.F.type_list_pop, mt_popAt⟩, fun F H p vs Q sF c d q => ?_⟩
    obtain ⟨ws, k1, k2, k3⟩ := cell_lst c
    obtain ⟨v, rfl, hv⟩ := dps1 d
    cases hv
    obtain ⟨u, k4, k5⟩ := dps_get k2 h5
    exact ⟨p, ws, i, k, u, rfl, rfl, k1, h1.1, h1.2, by rw [dps_len k2]; exact h3, k4, q _ _ (cell_new (dps_erase k k2) k3) k5⟩
  · rename_i kvs k
    obtain ⟨h1, h2⟩ := ite_some h
    obtain ⟨y, h3, h4⟩ := Option.map_eq_some_iff.mp h2
    cases h4
    refine ⟨"dict.pop", rPopD g, ⟨PySem.F.plainAttrs_dict, PySem.F.slot_dict_pop, PySem.F.type_dict_pop, mt_popD O⟩, fun F H p vs Q sF c d q => ?_⟩
    obtain ⟨k1, k2⟩ := cell_dct c
    obtain ⟨v, rfl, hv⟩ := dps1 d
    exact ⟨F, kvs, k, p, v, y, ⟨rfl, sF, k1, h1, hv⟩, rfl, h3, fun v o hv ho => q v o (cell_newD ho k2) hv⟩
  · cases h
theorem list_extendW (l : Addr) (items : Array Value) (n : Nat) (b : Addr) (items2 : Array Value) (n2 : Nat) (sl : Array (Option Value)) (hc0 : ¬(!items.isEmpty && Builtin.List.listTooLong (items.size + items2.size)) = true) (hc1 : items.size ≤ sizeLine) (hs2 : items.size + items2.size ≤ sizeLine + 1) :
    Meets (Builtin.«list.extend» ⟨[.ref l, .ref b], []⟩) (fun _ R s => s.heap.get? l = some { cls := .type "list", dict := none, data := .seq items n, slots := #[] } ∧ s.heap.get? b = some { cls := .type "list", dict := none, data := .seq items2 n2, slots := sl } ∧ R (.ok (.ret Value.none)) { s with heap := s.heap.update l (Obj.mapSeq fun x => x ++ items2), toks := s.toks }) :=
  .of_wp fun prog w A R s h => by
    obtain ⟨hp, g, d, tk, os⟩ := s; obtain ⟨hl, hb, h⟩ := h; have f1 := AutoSeq1.idx_int; have f2 := AutoSeq1.sub_tuple_tuple; have f3 := AutoSeq1.sub_list_list; have f4 := AutoSeq1.sub_tuple_list; have f5 := AutoSeq1.sub_list_tuple;
    have hz' : (items ++ items2).size ≤ sizeLine + 1 := by rw [Array.size_append]; exact hs2
    wp_walk using (wpAny_updateSeq hl rfl (hz := hc1) (_hz' := hz')), wpAny_loadPart' hl, wpAny_loadPart' hb; exact ⟨_, rfl, h⟩
/-- xs.extend(ys), ys any list -/
def rExtX (g : G) : V → List V → Hp → VK → Prop := fun x vs H Q => ∃ l b xs zs, x = .ref l ∧ vs = [.ref b] ∧ H l = some (.lst xs) ∧ SqL g.K H b zs ∧ xs.length + zs.length ≤ sizeLine ∧ Q .non (upd H l (.lst (xs ++ zs)))
theorem mt_extX (O : Ops g X) : MtR X "list.extend" (rExtX g) := by
  intro pins s σ H x vs v us Q I rx rv h
  obtain ⟨l, b, xs, zs, rfl, rfl, hH, hB, hz, q⟩ := h
  cases rx
  obtain ⟨u, rfl, ru⟩ := rv.one
  cases ru
  obtain ⟨z, its, n, r, hl, e⟩ := I.lstM hH
  obtain ⟨its2, r2, ⟨⟨cls, dd, data, sls⟩, n2, e2, hc, hdn, hdt⟩, hlen⟩ := I.list (O.K ▸ hB)
  simp only at hc hdt hdn
  subst hc hdt hdn
  have hl2 := r2.length
  have hsz : its.toArray.size + its2.toArray.size ≤ sizeLine := by rw [List.size_toArray, List.size_toArray]; omega
  have hlong : ¬ (!its.toArray.isEmpty && Builtin.List.listTooLong (its.toArray.size + its2.toArray.size)) = true := by
    rw [notLongL hsz, Bool.and_false]
    exact Bool.false_ne_true
  refine call_meets F.slot_list_extend ⟨_, e, rfl⟩ F.entry_list_extend (F.args_list_extend_2 _ _) (list_extendW l its.toArray n b its2.toArray n2 sls hlong (by rw [List.size_toArray]; omega) (by omega)) ⟨e, e2, ?_⟩
  refine ⟨.non, _, I.lset (its' := its ++ its2) hH e (by simp) (r.append r2) ?_, rfl, q⟩
  rw [List.length_append]
  omega
theorem mx_extend (O : Ops g X) : MxOk g X "extend" extendK := by
  intro kd a ds r h
  unfold extendK at h
  split at h
  · rename_i xs ys
    obtain ⟨h1, h2⟩ := ite_some h
    cases h2
    refine ⟨"list.extend", rExtX g, ⟨PySem.F.plainAttrs_list, PySem.F.slot_list_extend, PySem.F.type_list_extend, mt_extX O⟩, fun F H p vs Q sF c d q => ?_⟩
    obtain ⟨ws, k1, k2, k3⟩ := cell_lst c
    obtain ⟨v, rfl, hv⟩ := dps1 d
    cases hv with
    | lst hs hr =>
      exact ⟨p, _, ws, _, rfl, rfl, k1, sF.seq hs, by rw [dps_len k2, dps_len hr]; exact h1, q _ _ (cell_new (dps_app k2 hr) k3) .non⟩
  · cases h
end Ev

set_option Elab.async false
set_option linter.all false
set_option maxRecDepth 100000
set_option maxHeartbeats 1000000
/-! What a loop walks. -/
namespace Ev
open PySem PySem.Spec PyProof.Rows L2
variable {g : G} {cl : Calls} {X : Cx}

/-- a list, a tuple, a text that is walked -/
inductive Sc where
  | lst (a : Addr) (vs : List V)
  | tup (a : Addr) (vs : List V)
  | str (z : Str)
namespace Sc
def vs : Sc → List V
  | .lst _ vs => vs
  | .tup _ vs => vs
  | .str z => signsV z
def v : Sc → V
  | .lst a _ => .ref a
  | .tup a _ => .ref a
  | .str z => .str z
def Has (K : PySem.W.Frag) (H : Hp) : Sc → Prop
  | .lst a vs => SqL K H a vs
  | .tup a vs => SqT K H a vs
  | .str z => z.length ≤ sizeLine
def ItSt (it : Addr) (i : Nat) (h : Heap) : Sc → Prop
  | .lst a _ => h.IsListIter it a i
  | .tup a _ => h.IsTupleIter it a i
  | .str z => ∃ t, h.IsStrIter it (strIterType z) z t i
def ex : Sc → List Addr
  | .lst a _ => [a]
  | .tup a _ => [a]
  | .str _ => []
def fp (it : Addr) (sc : Sc) : List Addr := it :: sc.ex
theorem st_at {sc : Sc} {it : Addr} {i : Nat} {h h' : Heap} (st : sc.ItSt it i h) (k : ∀ o, h.get? it = some o → h'.get? it = some o) : sc.ItSt it i h' := by
  cases sc with
  | lst a vs => exact Heap.IsListIter.at st k
  | tup a vs => exact Heap.IsTupleIter.at st k
  | str z =>
    obtain ⟨t, o, ho, r⟩ := st
    exact ⟨t, o, k o ho, r⟩
theorem st_obj {sc : Sc} {it : Addr} {i : Nat} {h : Heap} (st : sc.ItSt it i h) : ∃ o, h.get? it = some o ∧ ∀ v, o.data ≠ .cell v := by
  cases sc with
  | lst a vs =>
    obtain ⟨o, ho, hc, hd⟩ := st
    exact ⟨o, ho, fun v e => by rw [hd] at e; cases e⟩
  | tup a vs =>
    obtain ⟨o, ho, hc, hd⟩ := st
    exact ⟨o, ho, fun v e => by rw [hd] at e; cases e⟩
  | str z =>
    obtain ⟨t, o, ho, hc, hd⟩ := st
    exact ⟨o, ho, fun v e => by rw [hd] at e; cases e⟩
end Sc
theorem sc_draws {sc : Sc} {pins : List (Addr × Obj)} {σ : L2.St} {H : Hp} {s : Shared} (I : Inv X pins σ H s) (h : sc.Has X.K H) {it : Addr} {i : Nat} (st : sc.ItSt it i s.heap) (hne : it ∉ sc.ex) :
    ∃ (P : Nat → Value → Prop) (St : Nat → Heap → Prop), (∀ A : Around, A.handled = none → Draws X.prog X.w A it (sc.fp it) sc.vs.length P St) ∧ St i s.heap ∧ (∀ j h', St j h' → sc.ItSt it j h') ∧ ∀ j u, P j u → ∃ x, sc.vs[j]? = some x ∧ RelV x u := by
  cases sc with
  | lst a vs =>
    obtain ⟨its, rv, pl, hz⟩ := I.list h
    have hl : its.toArray.size = vs.length := by rw [List.size_toArray]; exact rv.length.symm
    refine ⟨_, _, fun A hh => hl ▸ Draws.list hh it a (fun e => hne (by rw [e]; exact List.mem_cons_self)) its.toArray, ⟨st, pl.isList⟩, fun j h' x => x.1, fun j u hu => ?_⟩
    rw [← Array.getElem?_toList] at hu
    exact vals_getR rv hu
  | tup a vs =>
    obtain ⟨its, rv, pl, hz⟩ := I.tuple h
    have hl : its.toArray.size = vs.length := by rw [List.size_toArray]; exact rv.length.symm
    refine ⟨_, _, fun A hh => hl ▸ Draws.tuple hh it a (fun e => hne (by rw [e]; exact List.mem_cons_self)) its.toArray, ⟨st, pl⟩, fun j h' x => x.1, fun j u hu => ?_⟩
    rw [← Array.getElem?_toList] at hu
    exact vals_getR rv hu
  | str z =>
    obtain ⟨t, st⟩ := st
    have hl : z.cps.size = (signsV z).length := by simp [signsV]
    refine ⟨_, _, fun A hh => hl ▸ Draws.text hh it z t, st, fun j h' x => ⟨t, x⟩, fun j u hu => ?_⟩
    obtain ⟨c, u', hc, rfl⟩ := hu
    refine ⟨.str ⟨#[c]⟩, ?_, _, rfl⟩
    show (signsV z)[j]? = _
    unfold signsV
    rw [List.getElem?_map, Array.getElem?_toList, hc]
    rfl
theorem sc_begins {sc : Sc} {pins : List (Addr × Obj)} {σ : L2.St} {H : Hp} {s : Shared} {u : Value} (I : Inv X pins σ H s) (h : sc.Has X.K H) (r : RelV sc.v u) :
    ∃ (o : Obj) (Hs : Heap → Prop), Begins u o Hs ∧ Hs s.heap ∧ (∀ it h', h'.get? it = some o → sc.ItSt it 0 h') ∧ ∀ b ∈ sc.ex, b < s.heap.objs.size := by
  cases sc with
  | lst a vs =>
    cases r
    obtain ⟨its, rv, pl, hz⟩ := I.list h
    refine ⟨_, _, begins_list a its.toArray, pl.isList, fun it h' e => ⟨_, e, rfl, rfl⟩, fun b hb => ?_⟩
    have e : b = a := by simpa [Sc.ex] using hb
    subst e
    obtain ⟨o, n, ho, _⟩ := pl
    exact Heap.lt_size ho
  | tup a vs =>
    cases r
    obtain ⟨its, rv, pl, hz⟩ := I.tuple h
    refine ⟨_, _, begins_tuple a its.toArray, pl, fun it h' e => ⟨_, e, rfl, rfl⟩, fun b hb => ?_⟩
    have e : b = a := by simpa [Sc.ex] using hb
    subst e
    obtain ⟨o, ho, _⟩ := pl
    exact Heap.lt_size ho
  | str z =>
    obtain ⟨t, rfl⟩ := r
    exact ⟨_, _, begins_text z t, trivial, fun it h' e => ⟨t, _, e, rfl, rfl⟩, fun b hb => by cases hb⟩

theorem sc_len {sc : Sc} {pins : List (Addr × Obj)} {σ : L2.St} {H : Hp} {s : Shared} (I : Inv X pins σ H s) (h : sc.Has X.K H) : sc.vs.length ≤ sizeLine := by
  cases sc with
  | lst a vs => exact (I.list h).choose_spec.2.2
  | tup a vs => exact (I.tuple h).choose_spec.2.2
  | str z =>
    show (signsV z).length ≤ sizeLine
    unfold signsV
    rw [List.length_map, Array.length_toList]
    exact h
/-! ### one of the three -/
def Sc.J (K : PySem.W.Frag) : Sc → It
  | .lst a _ => Itl K a
  | .tup a _ => Itt K a
  | .str z => Its z
def iSeq (K : PySem.W.Frag) (tl : TE) : TI := fun σ H R => tl σ H fun x H1 => ∃ sc : Sc, x = sc.v ∧ sc.Has K H1 ∧ (sc.vs.length ≤ sizeLine → R (sc.J K) H1)
theorem pi_seq {tg l : Expr} {tl : TE} (hl : PE X l tl) : PI X tg l (iSeq X.K tl) := by
  refine ⟨fun pins s σ H R I h => ?_⟩
  refine thn (hl.run pins s σ H _ I h) fun v s1 ⟨x, H1, I1, r1, sc, e, hs, q⟩ => ?_
  subst e
  have q := q (sc_len I1 hs)
  cases sc with
  | lst a xs =>
    cases r1
    obtain ⟨its, rv, p, hz⟩ := I1.list hs
    exact wpAny_pyIter_list p.isList (pi_one (tk := s1.toks) I1 _ (turn_list a _) ⟨_, Heap.get?_push_size _ rfl, rfl, rfl⟩ q)
  | tup a xs =>
    cases r1
    obtain ⟨its, rv, p, hz⟩ := I1.tuple hs
    exact wpAny_pyIter_tuple (show s1.heap.IsTuple a its.toArray from p) (pi_one (tk := s1.toks) I1 _ (turn_tuple a _) ⟨_, Heap.get?_push_size _ rfl, rfl, rfl⟩ q)
  | str z =>
    obtain ⟨t, rfl⟩ := r1
    cases ha : z.cps.all (· < 128)
    · exact wpAny_pyIter_wide ha (pi_one (tk := s1.toks) I1 _ (turn_str _ z t "str_iterator" (.inr rfl)) ⟨_, Heap.get?_push_size _ rfl, rfl, rfl⟩ q)
    · exact wpAny_pyIter_ascii ha (pi_one (tk := s1.toks) I1 _ (turn_str _ z t "str_ascii_iterator" (.inl rfl)) ⟨_, Heap.get?_push_size _ rfl, rfl, rfl⟩ q)

/-! ### zip -/
def Itz2 (K : PySem.W.Frag) (c1 c2 : Sc) : It :=
  ⟨fun i H => i < min c1.vs.length c2.vs.length ∧ c1.Has K H ∧ c2.Has K H,
   fun i H v H' => ∃ T x y, v = .ref T ∧ H T = none ∧ H' = upd H T (.tup [x, y]) ∧ c1.vs[i]? = some x ∧ c2.vs[i]? = some y,
   fun i H => i = min c1.vs.length c2.vs.length ∧ c1.Has K H ∧ c2.Has K H⟩
theorem turn_zip2 {P : Program} {w : World} {K : PySem.W.Frag} {elts : List Expr} {kk : Nat} {tpos : Pos} {c1 c2 : Sc} {z TI TO i1 i2 : Addr} (S : ZipSep2 z TI TO i1 i2 (c1.fp i1) (c2.fp i2)) (n1 : i1 ∉ c1.ex) (n2 : i2 ∉ c2.ex) :
    Turn P w K (.Tuple elts kk tpos) (Itz2 K c1 c2) [z, TI, TO, i1, i2] z (fun i h => IsZip h z TI TO .none ∧ IsTupOf2 h TI (.ref i1) (.ref i2) ∧ (∃ x y, IsTupOf2 h TO x y) ∧ c1.ItSt i1 i h ∧ c2.ItSt i2 i h) where
  mem := by simp
  obj := fun i h st c hc => by
    obtain ⟨hz, hTI, ⟨x, y, hTO⟩, s1, s2⟩ := st
    have e' : c = z ∨ c = TI ∨ c = TO ∨ c = i1 ∨ c = i2 := by simpa using hc
    rcases e' with q | q | q | q | q
    · rw [q]; exact ⟨_, hz, fun v q => nomatch q⟩
    · rw [q]; exact ⟨_, hTI, fun v q => nomatch q⟩
    · rw [q]; exact ⟨_, hTO, fun v q => nomatch q⟩
    · rw [q]; exact Sc.st_obj s1
    · rw [q]; exact Sc.st_obj s2
  keep := fun i h h' st k => by
    obtain ⟨hz, hTI, ⟨x, y, hTO⟩, s1, s2⟩ := st
    exact ⟨k z (by simp) _ hz, k TI (by simp) _ hTI, ⟨x, y, k TO (by simp) _ hTO⟩, Sc.st_at s1 fun o q => k i1 (by simp) o q, Sc.st_at s2 fun o q => k i2 (by simp) o q⟩
  item := by
    intro X hP hw hK hc i pins s σ H E I hf st hg
    subst hP hw hK
    obtain ⟨hz, hTI, hTO, s1, s2⟩ := st
    obtain ⟨hi, q1, q2⟩ := hg
    obtain ⟨P1, St1, D1, t1, u1, p1⟩ := sc_draws I q1 s1 n1
    obtain ⟨P2, St2, D2, t2, u2, p2⟩ := sc_draws I q2 s2 n2
    have hh : X.A.in1.handled = none := I.ok.hd hc
    have W := GoesN.zip2 (A := X.A) (elts := elts) (x1 := kk) (pos := tpos) S (D1 _ hh) (D2 _ hh)
    refine W.goes i s (fun u s2 => ∃ x H', Inv X pins σ H' s2 ∧ RelV x u ∧ (Itz2 X.K c1 c2).yld i H x H' ∧ _ ∧ ∀ b ∈ [z, TI, TO, i1, i2], H' b = none) E hi ⟨hz, hTI, hTO, t1, t2⟩ fun v h' tk hY st' hk htk => ?_
    obtain ⟨T, x, y, rfl, hT, hx, hy, ho⟩ := hY
    obtain ⟨xv, x1, x2⟩ := p1 i x hx
    obtain ⟨yv, y1, y2⟩ := p2 i y hy
    obtain ⟨hz', hTI', hTO', t1', t2'⟩ := st'
    have new : ObjOk X.prog X.w (upd H T (.tup [xv, yv])) h' T (.tup [xv, yv]) := ⟨by show 2 ≤ sizeLine; decide, [x, y], .cons x2 (.cons y2 .nil), ho⟩
    have I1 : Inv X pins σ (upd H T (.tup [xv, yv])) { s with heap := h', toks := tk } :=
      I.turnedNew (ch := [z, TO, i1, i2]) hk (fun b hb => hf b (by
        have e' : b = z ∨ b = TO ∨ b = i1 ∨ b = i2 := by simpa using hb
        rcases e' with e | e | e | e <;> rw [e] <;> simp)) hT new
    refine ⟨.ref T, _, I1, rfl, ⟨T, xv, yv, rfl, I.hok.fresh hT, rfl, x1, y1⟩, ⟨hz', hTI', hTO', u1 _ _ t1', u2 _ _ t2'⟩, fun b hb => ?_⟩
    have hlt : b < s.heap.objs.size := by
      have e' : b = z ∨ b = TI ∨ b = TO ∨ b = i1 ∨ b = i2 := by simpa using hb
      rcases e' with q | q | q | q | q
      · rw [q]; exact Heap.lt_size hz
      · rw [q]; exact Heap.lt_size hTI
      · rw [q]; obtain ⟨_, _, e⟩ := hTO; exact Heap.lt_size e
      · rw [q]; obtain ⟨o, e, _⟩ := Sc.st_obj s1; exact Heap.lt_size e
      · rw [q]; obtain ⟨o, e, _⟩ := Sc.st_obj s2; exact Heap.lt_size e
    rw [upd_ne (Nat.ne_of_lt (Nat.lt_of_lt_of_le hlt hT))]
    exact (hf b hb).1
  done := by
    intro X hP hw hK hc i pins s σ H E I hf st hg
    subst hP hw hK
    obtain ⟨hz, hTI, hTO, s1, s2⟩ := st
    obtain ⟨rfl, q1, q2⟩ := hg
    obtain ⟨P1, St1, D1, t1, u1, p1⟩ := sc_draws I q1 s1 n1
    obtain ⟨P2, St2, D2, t2, u2, p2⟩ := sc_draws I q2 s2 n2
    have hh : X.A.in1.handled = none := I.ok.hd hc
    have W := GoesN.zip2 (A := X.A) (elts := elts) (x1 := kk) (pos := tpos) S (D1 _ hh) (D2 _ hh)
    refine W.stops s (fun s1 => Inv X pins σ H s1) E ⟨hz, hTI, hTO, t1, t2⟩ fun h' tk hk htk => ?_
    exact I.turnedL (ch := [z, TO, i1, i2]) hk (fun b hb => hf b (by
        have e' : b = z ∨ b = TO ∨ b = i1 ∨ b = i2 := by simpa using hb
        rcases e' with e | e | e | e <;> rw [e] <;> simp))
  self := fun A i s Q E st h => wpAny_pyIter_zip st.1 h
def iZipC (K : PySem.W.Frag) (ta : TA) : TI := fun σ H R => ta σ H fun vs H1 => ∃ c1 c2 : Sc, vs = [c1.v, c2.v] ∧ c1.Has K H1 ∧ c2.Has K H1 ∧ (c1.vs.length ≤ sizeLine → R (Itz2 K c1 c2) H1)
theorem pi_zipC {a b : Expr} {ta : TA} {p pos tpos : Pos} {elts : List Expr} {kk : Nat} (hg : Gl X "zip") (hm : X.mg "zip" = none) (ha : PA X [a, b] ta) (hs : [a, b].any isStar = false) :
    PI X (.Tuple elts kk tpos) (.Call (.Name "zip" p) [a, b] [] pos) (iZipC X.K ta) := by
  have hs' := hs
  rw [List.any_cons, Bool.or_eq_false_iff] at hs'
  refine ⟨fun pins s σ H R I h => ?_⟩
  refine Call_ (ld_blt I hg hm boot_zip (PyProof.Rows.callWith_type1 (thn (ha.run pos pins s σ H _ I h) fun us s1 ⟨vs, H1, I1, r1, q1⟩ => ?_) (star_cons hs'.1) (star_plain hs'.2)))
  obtain ⟨c1, c2, rfl, q1, q2, q⟩ := q1
  obtain ⟨u1, u2, rfl, r1, r2⟩ := r1.two
  obtain ⟨o1, H1', B1, b1, t1, e1⟩ := sc_begins I1 q1 r1
  obtain ⟨o2, H2', B2, b2, t2, e2⟩ := sc_begins I1 q2 r2
  refine zip_begins2 B1 B2 b1 b2 fun h' hz hTI hTO g1 g2 hsz hk => ?_
  refine wpAny_pyIter_zip hz ?_
  have I2 : Inv X pins σ H1 { s1 with heap := h' } := I1.kept (t' := s1.toks) hk
  have S := zip_sep2 (N := s1.heap.objs.size) (fp1 := c1.ex) (fp2 := c2.ex) e1 e2
  refine ⟨s1.heap.objs.size + 4, [s1.heap.objs.size + 4, s1.heap.objs.size + 2, s1.heap.objs.size + 3, s1.heap.objs.size, s1.heap.objs.size + 1], _, _, H1, rfl, I2,
    turn_zip2 S (fun z => absurd (e1 _ z) (Nat.lt_irrefl _)) (fun z => absurd (e2 _ z) (by show ¬ (s1.heap.objs.size + 1 < s1.heap.objs.size); omega)), ⟨hz, hTI, ⟨_, _, hTO⟩, t1 _ _ g1, t2 _ _ g2⟩, fun b hb => ?_, q (sc_len I1 q1)⟩
  have hle : s1.heap.objs.size ≤ b := by
    have e' : b = s1.heap.objs.size + 4 ∨ b = s1.heap.objs.size + 2 ∨ b = s1.heap.objs.size + 3 ∨ b = s1.heap.objs.size ∨ b = s1.heap.objs.size + 1 := by simpa using hb
    rcases e' with e | e | e | e | e <;> rw [e] <;> first | exact Nat.le_add_right _ _ | exact Nat.le_refl _
  exact I1.fpOk hle (I1.hok.fresh hle)

/-! ### readings -/
/-- what walks the items -/
def Wk (g : G) (J : It) (s : Src) (gh : Gh) (st : Store) (H : Hp) : Prop := s.items.length ≤ sizeLine ∧ ∃ (Gd : Hp → Prop) (Y : Nat → Hp → V → Hp → Prop), Walk J s.items.length Gd Y ∧
  (∀ gh2 st2 H2, Stp gh gh2 st st2 H H2 → Rep g gh2 st2 H2 → Gd H2) ∧
  ∀ i H2 x H3 gh2 st2, i < s.items.length → Stp gh gh2 st st2 H H2 → Rep g gh2 st2 H2 → Y i H2 x H3 → ∃ gh3, Stp gh2 gh3 st2 st2 H2 H3 ∧ Rep g gh3 st2 H3 ∧ ∃ d, s.items[i]? = some d ∧ Dp g.K gh3.F x d
def tI (g : G) (cl : Calls) (si : Si) : TI := fun σ H R => ∃ ρ gh st s st', RE g gh ρ σ ∧ Rep g gh st H ∧ si cl ρ st = .ok s st' ∧
  ∀ J gh' H', Stp gh gh' st st' H H' → Rep g gh' st' H' → Wk g J s gh' st' H' → (∀ n ∈ s.bxs, ∀ c, st[n]? = some c → c.st = .live) → R J H'
theorem PI.to {tg e : Expr} {t t' : TI} (h : PI X tg e t) (hi : ∀ σ H Q, t' σ H Q → t σ H Q) : PI X tg e t' := ⟨fun pins s σ H Q I hw => h.run pins s σ H Q I (hi σ H Q hw)⟩
/-- a value that is walked, its box locked -/
theorem src_sc {gh : Gh} {st st' : Store} {H : Hp} {w : W} {v : V} {s : Src} (R : Rep g gh st H) (r : RW g gh w v) (e : srcOf w itemsOf st = .ok s st') :
    ∃ sc : Sc, v = sc.v ∧ Stp gh gh st st' H H ∧ Rep g gh st' H ∧ DpAll g.K gh.F sc.vs s.items ∧ (∀ n ∈ s.bxs, ∃ v, st[n]? = some ⟨v, .live⟩) ∧ ∀ gh2 st2 H2, Stp gh gh2 st' st2 H H2 → Rep g gh2 st2 H2 → sc.Has g.K H2 := by
  obtain ⟨a, st1, e1, f1⟩ := bind_ok e
  obtain ⟨xs, st2, e2, f2⟩ := bind_ok f1
  obtain ⟨ns, st3, e3, f3⟩ := bind_ok f2
  obtain ⟨rfl, rfl⟩ := pure_ok f3
  obtain ⟨k2, h2⟩ := opt_ok e2
  subst h2
  cases w with
  | fn i => cases e1
  | d x =>
    obtain ⟨rfl, rfl⟩ := pure_ok e1
    obtain ⟨rfl, rfl⟩ := pure_ok e3
    have z : ∀ sc : Sc, v = sc.v → DpAll g.K gh.F sc.vs xs → (∀ H2, Same gh.F H2 → sc.Has g.K H2) → ∃ sc : Sc, v = sc.v ∧ Stp gh gh st' st' H H ∧ Rep g gh st' H ∧ DpAll g.K gh.F sc.vs xs ∧ (∀ n ∈ ([] : List Nat), ∃ v, st'[n]? = some ⟨v, .live⟩) ∧ ∀ gh2 st2 H2, Stp gh gh2 st' st2 H H2 → Rep g gh2 st2 H2 → sc.Has g.K H2 :=
      fun sc h1 h2 h3 => ⟨sc, h1, .refl _ _ _, R, h2, (fun n hn => nomatch hn), fun gh2 st2 H2 S R2 => h3 H2 (S.F.trans R2.sub)⟩
    have r : Dp g.K gh.F v a := r
    cases r <;> simp only [itemsOf, reduceCtorEq] at k2
    · obtain ⟨h1, k2⟩ := ite_some k2
      cases k2
      exact z (.str _) rfl (signs_dp _) fun H2 _ => h1
    · rename_i p ys ds h1 h2
      cases k2
      exact z (.lst p ys) rfl h2 fun H2 sm => sm.seq h1
    · rename_i p ys ds h1 h2
      cases k2
      exact z (.tup p ys) rfl h2 fun H2 sm => Same.seqT sm h1
  | bx n =>
    obtain ⟨p, h1, rfl⟩ := r
    cases hc : st[n]? with
    | none => simp only [deref, hc] at e1; cases e1
    | some c =>
      obtain ⟨cv, cs⟩ := c
      simp only [deref, hc] at e1
      cases e1
      have q := R.cell n _ p hc h1
      cases a with
      | list ds =>
        cases k2
        obtain ⟨vs, q1, q2, q3, q4⟩ := q
        have stays : ∀ (st' : Store), (¬ Live gh st' p) → ∀ gh2 st2 H2, Stp gh gh2 st' st2 H H2 → Rep g gh2 st2 H2 → (Sc.lst p vs).Has g.K H2 := fun st' nl gh2 st2 H2 S R2 => .inl (.inl (S.keep p _ q1 nl))
        cases cs with
        | live =>
          simp only [lockW, hc] at e3
          cases e3
          obtain ⟨R', S'⟩ := R.lock hc
          refine ⟨.lst p vs, rfl, S', R', q2, fun m hm => ⟨.list xs, ?_⟩, stays _ fun ⟨m, v, k1, k2⟩ => ?_⟩
          · rw [List.mem_singleton.mp hm]
            exact hc
          · have e := R.inj h1 k1
            subst e
            rw [List.getElem?_set_self (List.getElem?_eq_some_iff.mp hc).1] at k2
            cases k2
        | lock =>
          simp only [lockW, hc] at e3
          cases e3
          refine ⟨.lst p vs, rfl, .refl _ _ _, R, q2, (fun m hm => nomatch hm), stays _ fun ⟨m, v, k1, k2⟩ => ?_⟩
          have e := R.inj h1 k1
          subst e
          rw [hc] at k2
          cases k2
        | shut =>
          simp only [lockW, hc] at e3
          cases e3
          refine ⟨.lst p vs, rfl, .refl _ _ _, R, q2, (fun m hm => nomatch hm), stays _ fun ⟨m, v, k1, k2⟩ => ?_⟩
          have e := R.inj h1 k1
          subst e
          rw [hc] at k2
          cases k2
      | dict kvs => cases k2
      | none => exact q.elim
      | bool => exact q.elim
      | int => exact q.elim
      | str => exact q.elim
      | tuple => exact q.elim
theorem wk_at {J : It} {sc : Sc} {items : List PyData} {ns : List Nat} {gh : Gh} {st : Store} {H : Hp} {K : PySem.W.Frag} (hK : K = g.K) (hl : items.length ≤ sizeLine) (d : DpAll g.K gh.F sc.vs items) (hs : ∀ gh2 st2 H2, Stp gh gh2 st st2 H H2 → Rep g gh2 st2 H2 → sc.Has g.K H2) : Wk g (sc.J K) ⟨items, ns⟩ gh st H := by
  subst hK
  have hlen := dps_len d
  refine ⟨hl, (fun H => sc.Has g.K H), YAt sc.vs, ?_, hs, fun i H2 x H3 gh2 st2 hi S R2 y => ?_⟩
  · show Walk _ items.length _ _
    rw [← hlen]
    cases sc with
    | lst a vs => exact walk_list
    | tup a vs => exact walk_tup
    | str z =>
      have hz : (Sc.str z).vs.length = z.cps.size := by simp [Sc.vs, signsV]
      rw [hz]
      refine walk_str.mono (fun _ _ => trivial) fun i H x H' hi _ y => ⟨y.1, ?_⟩
      obtain ⟨c, h1, rfl⟩ := y.2
      show (signsV z)[i]? = _
      unfold signsV
      rw [List.getElem?_map, Array.getElem?_toList, h1]
      rfl
  · obtain ⟨rfl, y⟩ := y
    obtain ⟨u, h1, h2⟩ := dps_getV d y
    exact ⟨gh2, .refl _ _ _, R2, u, h1, dp_same S.F h2⟩
theorem pi_of (O : Ops g X) {tg e : Expr} {f : Sm W} (he : PE X e (tD g cl f)) : PI X tg e (tI g cl (iOf f)) := PI.to (pi_seq he) fun σ H Q t => by
  obtain ⟨ρ, gh, st, s, st', re, R, e, q⟩ := t
  obtain ⟨w, st1, e1, f1⟩ := bind_ok e
  refine ⟨ρ, gh, st, w, st1, re, R, e1, fun v gh1 H1 S1 R1 r1 => ?_⟩
  obtain ⟨sc, h1, S2, R2, d, hb, hs⟩ := src_sc R1 r1 f1
  refine ⟨sc, h1, O.K ▸ hs gh1 st' H1 (.refl _ _ _) R2, fun hl => q _ gh1 H1 (S1.trans R R1 S2) R2 (wk_at (J := sc.J X.K) O.K (by rw [← dps_len d]; exact hl) d hs) fun n hn c hc => ?_⟩
  obtain ⟨v', hv⟩ := hb n hn
  by_cases hz : c.st = .live
  · exact hz
  · obtain ⟨c', h3, h4⟩ := S1.nl n c hc hz
    rw [hv] at h3
    cases h3
    exact absurd rfl h4
theorem wk_range {lo : Int} {n : Nat} {gh : Gh} {st : Store} {H : Hp} (hn : n ≤ sizeLine) : Wk g (Itr lo n) ⟨intsFrom lo n, []⟩ gh st H := by
  have hl : (intsFrom lo n).length = n := by simp [intsFrom]
  refine ⟨by show (intsFrom lo n).length ≤ _; rw [hl]; exact hn, (fun _ => True), YFn fun i => .int (lo + i), ?_, fun _ _ _ _ _ => trivial, fun i H2 x H3 gh2 st2 hi S R2 y => ?_⟩
  · show Walk _ (intsFrom lo n).length _ _
    rw [hl]
    exact walk_range
  · obtain ⟨rfl, rfl⟩ := y
    have hi : i < (intsFrom lo n).length := hi
    rw [hl] at hi
    refine ⟨gh2, .refl _ _ _, R2, .int (lo + i), ?_, .int _⟩
    show (intsFrom lo n)[i]? = _
    unfold intsFrom
    rw [List.getElem?_map, List.getElem?_range hi]
    rfl
theorem pi_r1 {tg a : Expr} {f : Sm W} {p pos : Pos} (hg : Gl X "range") (hm : X.mg "range" = none) (hs : isStar a = false) (ha : PE X a (tD g cl f)) : PI X tg (.Call (.Name "range" p) [a] [] pos) (tI g cl (iRange1 f)) :=
  PI.to (pi_range1 hg hm (pa_consR hs ha pa_nilR) (star_cons hs)) fun σ H Q t => by
    obtain ⟨ρ, gh, st, s, st', re, R, e, q⟩ := t
    obtain ⟨w, st1, e1, f1⟩ := bind_ok e
    refine ⟨ρ, gh, st, [w], st1, re, R, ?_, fun vs gh1 H1 S1 R1 r1 => ?_⟩
    · show M.bind (f cl ρ) _ st = _
      unfold M.bind
      rw [e1]
      rfl
    · obtain ⟨j, rfl, hj, rfl, rfl⟩ : ∃ j, w = .d (.int j) ∧ (-(2 ^ 62) ≤ j ∧ j ≤ 16777216) ∧ s = ⟨intsFrom 0 j.toNat, []⟩ ∧ st' = st1 := by
        cases w with
        | d y =>
          cases y with
          | int j =>
            by_cases hj : -(2 ^ 62) ≤ j ∧ j ≤ 16777216
            · simp only [if_pos hj] at f1
              obtain ⟨rfl, rfl⟩ := pure_ok f1
              exact ⟨j, rfl, hj, rfl, rfl⟩
            · simp only [if_neg hj] at f1
              cases f1
          | _ => cases f1
        | _ => cases f1
      match vs, r1 with
      | [v], ⟨r2, _⟩ =>
        have r2 : Dp g.K gh1.F v (.int j) := r2
        cases r2
        exact ⟨j, rfl, hj.1, by omega, q _ gh1 H1 S1 R1 (wk_range (by rw [sizeLine_eq]; omega)) fun n hn => nomatch hn⟩
theorem pi_r2 {tg a b : Expr} {f h : Sm W} {p pos : Pos} (hg : Gl X "range") (hm : X.mg "range" = none) (hs : isStar a = false) (hs2 : isStar b = false) (ha : PE X a (tD g cl f)) (hb : PE X b (tD g cl h)) : PI X tg (.Call (.Name "range" p) [a, b] [] pos) (tI g cl (iRange2 f h)) :=
  PI.to (pi_range2 hg hm (pa_consR hs ha (pa_consR hs2 hb pa_nilR)) (by rw [star_cons hs, star_cons hs2]; rfl) (star_cons hs2)) fun σ H Q t => by
    obtain ⟨ρ, gh, st, s, st', re, R, e, q⟩ := t
    obtain ⟨w, st1, e1, f1⟩ := bind_ok e
    obtain ⟨u, st2, e2, f2⟩ := bind_ok f1
    refine ⟨ρ, gh, st, [w, u], st2, re, R, ?_, fun vs gh1 H1 S1 R1 r1 => ?_⟩
    · show M.bind (f cl ρ) _ st = _
      unfold M.bind
      rw [e1]
      show M.bind (M.bind (h cl ρ) _) _ st1 = _
      unfold M.bind
      rw [e2]
      rfl
    · obtain ⟨i, j, rfl, rfl, hj, rfl, rfl⟩ : ∃ i j, w = .d (.int i) ∧ u = .d (.int j) ∧ ((-(2 ^ 62) ≤ i ∧ i < 2 ^ 62 ∧ -(2 ^ 62) ≤ j ∧ j < 2 ^ 62) ∧ j - i ≤ 16777216) ∧ s = ⟨intsFrom i (j - i).toNat, []⟩ ∧ st' = st2 := by
        split at f2
        · rename_i i j
          by_cases hj : (-(2 ^ 62) ≤ i ∧ i < 2 ^ 62 ∧ -(2 ^ 62) ≤ j ∧ j < 2 ^ 62) ∧ j - i ≤ 16777216
          · simp only [if_pos hj] at f2
            obtain ⟨rfl, rfl⟩ := pure_ok f2
            exact ⟨i, j, rfl, rfl, hj, rfl, rfl⟩
          · simp only [if_neg hj] at f2
            cases f2
        · cases f2
      match vs, r1 with
      | [v, v2], ⟨r2, r3, _⟩ =>
        have r2 : Dp g.K gh1.F v (.int i) := r2
        have r3 : Dp g.K gh1.F v2 (.int j) := r3
        cases r2
        cases r3
        exact ⟨i, j, rfl, hj.1, q _ gh1 H1 S1 R1 (wk_range (by rw [sizeLine_eq]; omega)) fun n hn => nomatch hn⟩
theorem zip2_get : ∀ {xs ys : List PyData} {i : Nat} {x y : PyData}, xs[i]? = some x → ys[i]? = some y → (zip2 xs ys)[i]? = some (.tuple [x, y])
  | [], _, _, _, _, h, _ => by simp at h
  | _ :: _, [], _, _, _, _, h => by simp at h
  | a :: xs, b :: ys, 0, x, y, h1, h2 => by simp at h1 h2; subst h1 h2; rfl
  | a :: xs, b :: ys, i + 1, x, y, h1, h2 => by
    show (zip2 xs ys)[i]? = _
    exact zip2_get (by simpa using h1) (by simpa using h2)
theorem zip2_len : ∀ (xs ys : List PyData), (zip2 xs ys).length = min xs.length ys.length
  | [], ys => by simp [zip2]
  | _ :: _, [] => by simp [zip2]
  | a :: xs, b :: ys => by
    show (zip2 xs ys).length + 1 = _
    rw [zip2_len xs ys, List.length_cons, List.length_cons]
    omega
theorem walk_zip2 {K : PySem.W.Frag} {c1 c2 : Sc} : Walk (Itz2 K c1 c2) (min c1.vs.length c2.vs.length) (fun H => c1.Has K H ∧ c2.Has K H) (fun i H v H' => ∃ T x y, v = .ref T ∧ H T = none ∧ H' = upd H T (.tup [x, y]) ∧ c1.vs[i]? = some x ∧ c2.vs[i]? = some y) :=
  ⟨fun i H hi h => ⟨hi, h⟩, fun H h => ⟨rfl, h⟩, fun i H x H' _ _ y => y⟩
theorem pi_z2 (O : Ops g X) {a b : Expr} {f h : Sm W} {p pos tpos : Pos} {elts : List Expr} {kk : Nat} (hg : Gl X "zip") (hm : X.mg "zip" = none) (hs : isStar a = false) (hs2 : isStar b = false) (ha : PE X a (tD g cl f)) (hb : PE X b (tD g cl h)) :
    PI X (.Tuple elts kk tpos) (.Call (.Name "zip" p) [a, b] [] pos) (tI g cl (iZip2 f h)) :=
  PI.to (pi_zipC hg hm (pa_consR hs ha (pa_consR hs2 hb pa_nilR)) (by simp [hs, hs2])) fun σ H Q t => by
    obtain ⟨ρ, gh, st, s, st', re, R, e, q⟩ := t
    obtain ⟨w, st1, e1, f1⟩ := bind_ok e
    obtain ⟨u, st2, e2, f2⟩ := bind_ok f1
    obtain ⟨s1, st3, e3, f3⟩ := bind_ok f2
    obtain ⟨s2, st4, e4, f4⟩ := bind_ok f3
    obtain ⟨rfl, rfl⟩ := pure_ok f4
    refine ⟨ρ, gh, st, [w, u], st2, re, R, ?_, fun vs gh1 H1 S1 R1 r1 => ?_⟩
    · show M.bind (f cl ρ) _ st = _
      unfold M.bind
      rw [e1]
      show M.bind (M.bind (h cl ρ) _) _ st1 = _
      unfold M.bind
      rw [e2]
      rfl
    · match vs, r1 with
      | [v, v2], ⟨r2, r3, _⟩ =>
        obtain ⟨c1, h1, S2, R2, d1, b1, k1⟩ := src_sc R1 r2 e3
        obtain ⟨c2, h2, S3, R3, d2, b2, k2⟩ := src_sc R2 r3 e4
        subst h1 h2
        have K1 : ∀ gh2 st2 H2, Stp gh1 gh2 st' st2 H1 H2 → Rep g gh2 st2 H2 → c1.Has g.K H2 := fun gh2 st2 H2 S RR => k1 gh2 st2 H2 (S3.trans R2 R3 S) RR
        have l1 := dps_len d1
        have l2 := dps_len d2
        refine ⟨c1, c2, rfl, O.K ▸ K1 gh1 _ H1 (.refl _ _ _) R3, O.K ▸ k2 gh1 _ H1 (.refl _ _ _) R3, fun hl => q _ gh1 H1 ((S1.trans R R1 S2).trans R R2 S3) R3 ?_ fun n hn c hc => ?_⟩
        · refine ⟨?_, (fun H => c1.Has g.K H ∧ c2.Has g.K H), (fun i H v H' => ∃ T x y, v = .ref T ∧ H T = none ∧ H' = upd H T (.tup [x, y]) ∧ c1.vs[i]? = some x ∧ c2.vs[i]? = some y), ?_, fun gh2 st2 H2 S RR => ⟨K1 gh2 st2 H2 S RR, k2 gh2 st2 H2 S RR⟩, fun i H2 x H3 gh2 st2 hi S RR y => ?_⟩
          · show (zip2 s1.items s2.items).length ≤ _
            rw [zip2_len]
            omega
          · show Walk _ (zip2 s1.items s2.items).length _ _
            rw [zip2_len, ← l1, ← l2, O.K]
            exact walk_zip2
          · obtain ⟨T, xv, yv, rfl, hT, rfl, y1, y2⟩ := y
            obtain ⟨R4, S4⟩ := RR.alloc hT (.tup [xv, yv])
            obtain ⟨dx, x1, x2⟩ := dps_getV d1 y1
            obtain ⟨dy, z1, z2⟩ := dps_getV d2 y2
            exact ⟨_, S4, R4, .tuple [dx, dy], zip2_get x1 z1, .tup (.inl (.inl upd_same)) (.cons (dp_same (S.F.trans S4.F) x2) (.cons (dp_same (S.F.trans S4.F) z2) .nil))⟩
        · have hlive : c.st = .live ∨ c.st ≠ .live := by
            by_cases z : c.st = .live
            · exact .inl z
            · exact .inr z
          rcases hlive with z | z
          · exact z
          · rcases List.mem_append.mp hn with hn | hn
            · obtain ⟨v', hv⟩ := b1 n hn
              obtain ⟨c', h3, h4⟩ := S1.nl n c hc z
              rw [hv] at h3
              cases h3
              exact absurd rfl h4
            · obtain ⟨v', hv⟩ := b2 n hn
              obtain ⟨c', h3, h4⟩ := (S1.trans R R1 S2).nl n c hc z
              rw [hv] at h3
              cases h3
              exact absurd rfl h4
end Ev

set_option Elab.async false
set_option linter.all false
set_option maxRecDepth 100000
set_option maxHeartbeats 1000000
/-! Targets, comprehensions, loops. -/
namespace Ev
open PySem PySem.Spec PyProof.Rows L2
variable {g : G} {cl : Calls} {X : Cx}

/-! ### targets -/
def tG (g : G) (t : Tgt) : TG := fun v σ H Q => ∃ ρ gh st d ρ', RE g gh ρ σ ∧ Rep g gh st H ∧ Dp g.K gh.F v d ∧ asgD t d ρ = some ρ' ∧ ∀ σ', RE g gh ρ' σ' → (∀ j, j ∉ slotsT t → σ'[j]? = σ[j]?) → σ'.length = σ.length → Q σ' H
def tGs (g : G) (ts : List Tgt) : TGs := fun vs σ H Q => ∃ ρ gh st ds ρ', RE g gh ρ σ ∧ Rep g gh st H ∧ DpAll g.K gh.F vs ds ∧ asgDs ts ds ρ = some ρ' ∧ ∀ σ', RE g gh ρ' σ' → (∀ j, j ∉ slotsTs ts → σ'[j]? = σ[j]?) → σ'.length = σ.length → Q σ' H
theorem PG.to {e : Expr} {t t' : TG} (h : PG X e t) (hi : ∀ v σ H Q, t' v σ H Q → t v σ H Q) : PG X e t' := ⟨fun pins s σ H v u Q I r hw => h.run pins s σ H v u Q I r (hi v σ H Q hw)⟩
theorem PGs.to {e : List Expr} {t t' : TGs} (h : PGs X e t) (hi : ∀ v σ H Q, t' v σ H Q → t v σ H Q) : PGs X e t' := ⟨fun pins s σ H v u Q I r hw => h.run pins s σ H v u Q I r (hi v σ H Q hw)⟩
theorem pg_nameD {i : Nat} {x : Str} {pos : Pos} (hN : X.N.Nodup) (hi : X.N[i]? = some x) (hx : Loc X.env.scope x) (hf : X.fn x = true ∨ X.env.scope.names.lookup x = some .local) : PG X (.Name x pos) (tG g (.name i)) :=
  PG.to (pg_name hN hi hx hf) fun v σ H Q h => by
    obtain ⟨ρ, gh, st, d, ρ', re, R, hd, e, q⟩ := h
    cases e
    refine q (σ.set i (some v)) (re.set i hd) (fun j hj => ?_) (by rw [List.length_set])
    have : i ≠ j := fun e => hj (by rw [e]; exact List.mem_cons_self)
    exact List.getElem?_set_ne this
theorem pg_nilD : PGs X [] (tGs g []) := PGs.to pgs_nil fun v σ H Q h => by
  obtain ⟨ρ, gh, st, ds, ρ', re, R, hd, e, q⟩ := h
  cases hd with
  | nil => cases e; exact ⟨rfl, q σ re (fun _ _ => rfl) rfl⟩
  | cons a b => cases e
theorem isStar_asg {e : Expr} {es : List Expr} {env : PySem.Env} (h : isStar e = false) : assignEach (e :: es) env = (false, assign e env) :: assignEach es env := by
  cases e <;> first | rfl | cases h
theorem pg_consD {e : Expr} {es : List Expr} {t : Tgt} {ts : List Tgt} (hs : isStar e = false) (h1 : PG X e (tG g t)) (h2 : PGs X es (tGs g ts)) : PGs X (e :: es) (tGs g (t :: ts)) :=
  PGs.to (pgs_cons h1 h2 (by rw [isStar_asg hs]; rfl)) fun v σ H Q h => by
    obtain ⟨ρ, gh, st, ds, ρ', re, R, hd, e, q⟩ := h
    cases hd with
    | nil => cases e
    | cons hd hds =>
      rename_i v vs d ds
      obtain ⟨ρ1, e1, e2⟩ := Option.bind_eq_some_iff.mp (show (asgD t d ρ).bind _ = some ρ' from e)
      refine ⟨v, vs, rfl, ρ, gh, st, d, ρ1, re, R, hd, e1, fun σ1 re1 k1 l1 => ⟨ρ1, gh, st, ds, ρ', re1, R, hds, e2, fun σ2 re2 k2 l2 => q σ2 re2 (fun j hj => ?_) (l2.trans l1)⟩⟩
      have hj1 : j ∉ slotsT t := fun z => hj (List.mem_append_left _ z)
      have hj2 : j ∉ slotsTs ts := fun z => hj (List.mem_append_right _ z)
      rw [k2 j hj2, k1 j hj1]
theorem asg_facts {env : PySem.Env} : ∀ {es : List Expr}, es.any isStar = false → (assignEach es env).length = es.length ∧ (assignEach es env).findIdx? (·.1) = none
  | [], _ => ⟨rfl, rfl⟩
  | e :: es, h => by
    rw [List.any_cons, Bool.or_eq_false_iff] at h
    rw [isStar_asg h.1]
    obtain ⟨h1, h2⟩ := asg_facts (env := env) h.2
    refine ⟨by rw [List.length_cons, List.length_cons, h1], ?_⟩
    rw [List.findIdx?_cons, h2]
    rfl
theorem asgDs_len : ∀ {ts : List Tgt} {ds : List PyData} {ρ ρ' : Env}, asgDs ts ds ρ = some ρ' → ds.length = ts.length
  | [], [], _, _, _ => rfl
  | t :: ts, d :: ds, ρ, ρ', h => by
    obtain ⟨ρ1, e1, e2⟩ := Option.bind_eq_some_iff.mp (show (asgD t d ρ).bind _ = some ρ' from h)
    rw [List.length_cons, List.length_cons, asgDs_len e2]
  | [], _ :: _, _, _, h => by cases h
  | _ :: _, [], _, _, h => by cases h
theorem pg_tupD (O : Ops g X) {es : List Expr} {ts : List Tgt} {k : Nat} {pos : Pos} (hs : es.any isStar = false) (hl : ts.length = es.length) (h : PGs X es (tGs g ts)) : PG X (.Tuple es k pos) (tG g (.tup ts)) :=
  PG.to (pg_tup (n := es.length) O.calm h (asg_facts hs).1 (asg_facts hs).2) fun v σ H Q h => by
    obtain ⟨ρ, gh, st, d, ρ', re, R, hd, e, q⟩ := h
    cases hd with
    | tup h1 h2 =>
      rename_i a vs ds
      have e : asgDs ts ds ρ = some ρ' := e
      exact ⟨a, vs, rfl, O.K ▸ Same.seqT R.sub h1, by rw [dps_len h2, asgDs_len e, hl], ρ, gh, st, ds, ρ', re, R, h2, e, q⟩
    | _ => cases e

/-! ### what stands apart from all that is known -/
theorem Rep.apart {gh : Gh} {st : Store} {H : Hp} (R : Rep g gh st H) {D : Addr} (hF : gh.F D = none) (hA : D ∉ gh.ad) {H' : Hp} (he : ∀ b, b ≠ D → H' b = H b) : Rep g gh st H' := by
  have nD : ∀ b o, gh.F b = some o → b ≠ D := fun b o e z => by rw [z, hF] at e; cases e
  refine ⟨fun b o e => by rw [he b (nD b o e)]; exact R.sub b o e, R.len, R.nd, fun n c a h1 h2 => ?_⟩
  have hb : a ≠ D := fun z => hA (z ▸ mem_of_ad h2)
  exact (R.cell n c a h1 h2).mono (.refl _) (fun o e => by rw [he a hb]; exact e) fun f => f
theorem Stp.apart {gh gh' : Gh} {st st' : Store} {H H1 H2 : Hp} (S : Stp gh gh' st st' H H1) {D : Addr} (hD : H D = none) (he : ∀ b, b ≠ D → H2 b = H1 b) : Stp gh gh' st st' H H2 :=
  ⟨S.F, S.ad, fun a o h q => by rw [he a (fun z => by rw [z, hD] at h; cases h)]; exact S.keep a o h q, S.newF, S.newA, S.nl⟩
theorem Rep.notAd {gh : Gh} {st : Store} {H : Hp} (R : Rep g gh st H) {D : Addr} (hD : H D = none) : D ∉ gh.ad := fun hm => by
  obtain ⟨n, hn⟩ := get_of_mem hm
  have hlt := R.lt hn
  obtain ⟨u, hu⟩ := (R.cell n _ D (List.getElem?_eq_getElem hlt) hn).there
  rw [hD] at hu
  cases hu

/-! ### comprehensions -/
theorem Stp.unlock {gh gh' : Gh} {st st' : Store} {H H' : Hp} (S : Stp gh gh' st st' H H') {ns : List Nat} (hb : ∀ n ∈ ns, ∀ c, st[n]? = some c → c.st = .live) : Stp gh gh' st (Ev.unlock ns st') H H' := by
  refine ⟨S.F, S.ad, S.keep, S.newF, S.newA, fun n c h q => ?_⟩
  have hn : n ∉ ns := fun z => q (hb n z c h)
  obtain ⟨c', h1, h2⟩ := S.nl n c h q
  clear S
  have : ∀ (ns : List Nat) (st' : Store), n ∉ ns → st'[n]? = some c' → (Ev.unlock ns st')[n]? = some c' := by
    intro ns
    induction ns with
    | nil => intro st' _ h; exact h
    | cons m ns ih =>
      intro st' hm h
      have hne : m ≠ n := fun e => hm (by rw [e]; exact List.mem_cons_self)
      refine ih _ (fun z => hm (List.mem_cons_of_mem _ z)) ?_
      split
      · rw [List.getElem?_set_ne hne]; exact h
      · exact h
  exact ⟨c', this ns st' hn h1, h2⟩
def erase (H : Hp) (D : Addr) : Hp := fun b => if b = D then none else H b
theorem erase_self {H : Hp} {D : Addr} : erase H D D = none := if_pos rfl
theorem erase_ne {H : Hp} {D b : Addr} (h : b ≠ D) : erase H D b = H b := if_neg h
theorem upd_erase {H : Hp} {D : Addr} {o : HO} (h : H D = some o) : upd (erase H D) D o = H := by
  funext b
  by_cases e : b = D
  · rw [e, upd_same, h]
  · rw [upd_ne e, erase_ne e]
theorem wipe_keep : ∀ (vs : List Nat) {σ σ2 : L2.St} (hl : σ2.length = σ.length) (h : ∀ j, j ∉ vs → σ2[j]? = (L2.wipe σ vs)[j]?), L2.wipe σ2 vs = L2.wipe σ vs := by
  intro vs σ σ2 hl h
  apply List.ext_getElem?
  intro j
  by_cases hj : j ∈ vs
  · have gone : ∀ (vs : List Nat) (τ : L2.St), j ∈ vs → (L2.wipe τ vs)[j]? = if j < τ.length then some none else none := by
      intro vs τ
      induction vs with
      | nil => intro h; cases h
      | cons v vs ih =>
        intro hm
        show ((L2.wipe τ vs).set v none)[j]? = _
        by_cases e : v = j
        · subst e
          by_cases hlt : v < τ.length
          · rw [List.getElem?_set_self (by rw [wipe_length]; exact hlt), if_pos hlt]
          · rw [List.getElem?_eq_none (by rw [List.length_set, wipe_length]; omega), if_neg hlt]
        · rw [List.getElem?_set_ne e]
          rcases List.mem_cons.mp hm with z | z
          · exact absurd z.symm e
          · exact ih z
    rw [gone vs σ2 hj, gone vs σ hj, hl]
  · have stay : ∀ (vs : List Nat) (τ : L2.St), j ∉ vs → (L2.wipe τ vs)[j]? = τ[j]? := by
      intro vs τ
      induction vs with
      | nil => intro _; rfl
      | cons v vs ih =>
        intro hm
        have e : v ≠ j := fun e => hm (by rw [e]; exact List.mem_cons_self)
        show ((L2.wipe τ vs).set v none)[j]? = _
        rw [List.getElem?_set_ne e, ih fun z => hm (List.mem_cons_of_mem _ z)]
    rw [stay vs σ2 hj, h j hj]
theorem wipe_wipe (vs : List Nat) (σ : L2.St) : L2.wipe (L2.wipe σ vs) vs = L2.wipe σ vs := wipe_keep vs (by rw [wipe_length]) fun j _ => rfl
theorem t_lc {own : List Nat} {si : Si} {t : Tgt} {c : Sm Bool} {f : Sm W} (ht : (slotsT t).all own.contains = true) {σ : L2.St} {H : Hp} {Q : VK} (h : tN g cl (nComp own si t c f) σ H Q) : tLc (tI g cl si) (tG g t) (tB g cl c) (tD g cl f) own σ H Q := by
  obtain ⟨ρ, gh, st, d, st', re, R, e, q⟩ := h
  obtain ⟨s, st1, e1, f1⟩ := bind_ok e
  obtain ⟨ys, st2, e2, f2⟩ := bind_ok f1
  obtain ⟨u, st3, e3, f3⟩ := bind_ok f2
  obtain ⟨rfl, rfl⟩ := pure_ok f3
  cases e3
  refine ⟨ρ, gh, st, s, st1, re, R, e1, fun J gh1 H1 S1 R1 wk hb D hD => ?_⟩
  obtain ⟨hsz, Gd, Y, W, stand, yield⟩ := wk
  have hF1 : gh1.F D = none := R1.sub.free hD
  have hA1 := R1.notAd hD
  have hsub : ∀ j, j ∈ slotsT t → j ∈ own := fun j hj => by
    have := List.all_eq_true.mp ht j hj
    simpa using this
  refine lc_it W (fun i H2 => ∃ gh2 st2' acc ds rest, Rep g gh2 st2' H2 ∧ Stp gh1 gh2 st1 st2' H1 H2 ∧ H2 D = some (.lst acc) ∧ D ∉ gh2.ad ∧ gh2.F D = none ∧ DpAll g.K gh2.F acc ds ∧ acc.length ≤ i ∧
    compLoop (fun x => asgD t x (wipeE ρ own)) (c cl) (eltD f cl) (s.items.drop i) st2' = .ok rest st2 ∧ ys = ds ++ rest) ?_ ?_ ?_ ?_
  · refine ⟨gh1, st1, [], [], ys, R1.apart hF1 hA1 (fun b hb => upd_ne hb), (Stp.refl gh1 st1 H1).apart hD (fun b hb => upd_ne hb), upd_same, hA1, hF1, .nil, Nat.le_refl _, ?_, rfl⟩
    rw [List.drop_zero]
    exact e2
  · rintro i H2 hi ⟨gh2, st2', acc, ds, rest, R2, S2, _⟩
    exact stand gh2 st2' H2 S2 R2
  · rintro i x H2 H3 hi ⟨gh2, st2', acc, ds, rest, R2, S2, hacc, hA2, hF2, hds, hle, e4, e5⟩ y
    obtain ⟨gh3, S3, R3, dx, hdx, hx⟩ := yield i H2 x H3 gh2 st2' hi S2 R2 y
    have hdrop : s.items.drop i = dx :: s.items.drop (i + 1) := by
      rw [List.drop_eq_getElem_cons hi]
      rw [List.getElem?_eq_getElem hi] at hdx
      rw [Option.some.inj hdx]
    rw [hdrop] at e4
    obtain ⟨ρ1, st4, e6, f4⟩ := bind_ok (f := M.ofOpt (asgD t dx (wipeE ρ own))) e4
    obtain ⟨k6, h6⟩ := opt_ok e6
    subst h6
    obtain ⟨b, st5, e7, f5⟩ := bind_ok (f := c cl ρ1) f4
    have S13 := S2.trans R1 R2 S3
    have reW : RE g gh3 (wipeE ρ own) (L2.wipe σ own) := ((re.mono S1).mono S13).wipe own
    refine ⟨_, gh3, _, dx, ρ1, reW, R3, hx, k6, fun σ2 re2 hk hl => ⟨?_, ρ1, gh3, _, b, st5, re2, R3, e7, fun gh4 H4 S4 R4 => ?_⟩⟩
    · refine wipe_keep own (by rw [hl, wipe_length]) fun j hj => ?_
      rw [hk j fun z => hj (hsub j z)]
    · have hH3 : H3 D = some (.lst acc) := S3.keep D _ hacc fun ⟨n, v, z, _⟩ => hA2 (mem_of_ad z)
      have hA3 : D ∉ gh3.ad := S3.newA D _ hacc hA2
      have hF3 : gh3.F D = none := S3.newF D _ hacc hA2 hF2
      have hH4 : H4 D = some (.lst acc) := S4.keep D _ hH3 fun ⟨n, v, z, _⟩ => hA3 (mem_of_ad z)
      have hA4 : D ∉ gh4.ad := S4.newA D _ hH3 hA3
      have hF4 : gh4.F D = none := S4.newF D _ hH3 hA3 hF3
      have S14 := S13.trans R1 R3 S4
      cases b with
      | false =>
        show (if false = true then _ else _)
        rw [if_neg Bool.false_ne_true]
        exact ⟨gh4, st5, acc, ds, rest, R4, S14, hH4, hA4, hF4, dps_same (S3.F.trans S4.F) hds, Nat.le_succ_of_le hle, f5, e5⟩
      | true =>
        show (if true = true then _ else _)
        rw [if_pos rfl]
        obtain ⟨yv, st6, e8, f6⟩ := bind_ok (f := eltD f cl ρ1) f5
        obtain ⟨w, st7, e9, f7⟩ := bind_ok (f := f cl ρ1) e8
        obtain ⟨zs, st8, e10, f8⟩ := bind_ok (f := compLoop (fun x => asgD t x (wipeE ρ own)) (c cl) (eltD f cl) (s.items.drop (i + 1))) f6
        obtain ⟨rfl, rfl⟩ := pure_ok f8
        refine ⟨ρ1, gh4, st5, w, st7, re2.mono S4, R4, e9, fun v gh5 H5 S5 R5 r5 => ?_⟩
        obtain ⟨gh6, S6, R6, d6⟩ := toD_ok R5 r5 f7
        have hH5 : H5 D = some (.lst acc) := S5.keep D _ hH4 fun ⟨n, v, z, _⟩ => hA4 (mem_of_ad z)
        have hA5 : D ∉ gh5.ad := S5.newA D _ hH4 hA4
        have hF5 : gh5.F D = none := S5.newF D _ hH4 hA4 hF4
        have hA6 : D ∉ gh6.ad := S6.newA D _ hH5 hA5
        have hF6 : gh6.F D = none := S6.newF D _ hH5 hA5 hF5
        have S16 := (S14.trans R1 R4 S5).trans R1 R5 S6
        have hF26 := ((S3.F.trans S4.F).trans S5.F).trans S6.F
        refine ⟨acc, hH5, Nat.lt_of_le_of_lt hle (Nat.lt_of_lt_of_le hi hsz), gh6, st6, acc ++ [v], ds ++ [yv], zs, R6.apart hF6 hA6 (fun b hb => upd_ne hb), S16.apart hD (fun b hb => upd_ne hb), upd_same, hA6, hF6,
          dps_app (dps_same hF26 hds) (dps_one d6), by rw [List.length_append, List.length_singleton]; omega, e10, by rw [e5, List.append_assoc]; rfl⟩
  · rintro H2 ⟨gh2, st2', acc, ds, rest, R2, S2, hacc, hA2, hF2, hds, hle, e4, e5⟩
    rw [List.drop_length] at e4
    obtain ⟨rfl, rfl⟩ := pure_ok e4
    rw [List.append_nil] at e5
    subst e5
    have R3 : Rep g gh2 st2 (erase H2 D) := R2.apart hF2 hA2 fun b hb => erase_ne hb
    have S3 : Stp gh1 gh2 st1 st2 H1 (erase H2 D) := S2.apart hD fun b hb => erase_ne hb
    have := q D (.lst acc) gh2 (erase H2 D) ((S1.trans R R1 S3).unlock hb) (R3.unlock _) erase_self (by
      rw [upd_erase hacc]
      exact ⟨acc, hacc, hds, (fun z => CSt.noConfusion z), fun _ => hF2⟩)
    rw [upd_erase hacc] at this
    exact this
end Ev

set_option Elab.async false
set_option linter.all false
set_option maxRecDepth 100000
set_option maxHeartbeats 1000000
/-! Statements. -/
namespace Ev
open PySem PySem.Spec PyProof.Rows L2
variable {g : G} {cl : Calls} {X : Cx}
theorem PS.to {s : Stmt} {t t' : TS} (h : PS X s t) (hi : ∀ D σ H, t' D σ H → t D σ H) : PS X s t' := ⟨fun pins s σ H D I hw => h.run pins s σ H D I (hi D σ H hw)⟩
theorem PSs.to {s : List Stmt} {t t' : TS} (h : PSs X s t) (hi : ∀ D σ H, t' D σ H → t D σ H) : PSs X s t' := ⟨fun pins s σ H D I hw => h.run pins s σ H D I (hi D σ H hw)⟩

/-! ### for -/
theorem t_for {t : Tgt} {si : Si} {body : Ss} {D : Ends} {σ : L2.St} {H : Hp} (h : tS g cl (sFor t si body) D σ H) : tFor (tI g cl si) (tG g t) (tS g cl body) D σ H := by
  obtain ⟨ρ, gh, st, r, st', re, R, e, q⟩ := h
  obtain ⟨s, st1, e1, f1⟩ := bind_ok e
  obtain ⟨r0, st2, e2, f2⟩ := bind_ok f1
  obtain ⟨u, st3, e3, f3⟩ := bind_ok f2
  obtain ⟨rfl, rfl⟩ := pure_ok f3
  cases e3
  refine ⟨ρ, gh, st, s, st1, re, R, e1, fun J gh1 H1 S1 R1 wk hb => ?_⟩
  obtain ⟨hsz, Gd, Y, W, stand, yield⟩ := wk
  have fin : ∀ {σ' gh2 H2}, Stp gh1 gh2 st1 st2 H1 H2 → Rep g gh2 st2 H2 → RE g gh2 r.2 σ' → EndOk g D gh2 H2 σ' r.1 := fun {σ' gh2 H2} S2 R2 re2 => q σ' gh2 H2 ((S1.trans R R1 S2).unlock hb) (R2.unlock _) re2
  refine for_it W (fun i σ' H2 => ∃ ρ' gh2 st2', RE g gh2 ρ' σ' ∧ Rep g gh2 st2' H2 ∧ Stp gh1 gh2 st1 st2' H1 H2 ∧ forLoop (asgD t) (body cl) (s.items.drop i) ρ' st2' = .ok r st2) ?_ ?_ ?_ ?_
  · exact ⟨ρ, gh1, st1, re.mono S1, R1, .refl _ _ _, by rw [List.drop_zero]; exact e2⟩
  · rintro i σ' H2 hi ⟨ρ', gh2, st2', re2, R2, S2, _⟩
    exact stand gh2 st2' H2 S2 R2
  · rintro i x σ' H2 H3 hi ⟨ρ', gh2, st2', re2, R2, S2, e4⟩ y
    obtain ⟨gh3, S3, R3, dx, hdx, hx⟩ := yield i H2 x H3 gh2 st2' hi S2 R2 y
    have hdrop : s.items.drop i = dx :: s.items.drop (i + 1) := by
      rw [List.drop_eq_getElem_cons hi]
      rw [List.getElem?_eq_getElem hi] at hdx
      rw [Option.some.inj hdx]
    rw [hdrop] at e4
    obtain ⟨ρ1, st4, e6, f4⟩ := bind_ok (f := M.ofOpt (asgD t dx ρ')) e4
    obtain ⟨k6, h6⟩ := opt_ok e6
    subst h6
    obtain ⟨rb, st5, e7, f5⟩ := bind_ok (f := body cl ρ1) f4
    obtain ⟨fl, ρ2⟩ := rb
    have S13 := S2.trans R1 R2 S3
    refine ⟨ρ', gh3, _, dx, ρ1, re2.mono S3, R3, hx, k6, fun σ2 re3 hk hl => ⟨ρ1, gh3, _, (fl, ρ2), st5, re3, R3, e7, fun σ4 gh4 H4 S4 R4 re4 => ?_⟩⟩
    have S14 := S13.trans R1 R3 S4
    cases fl with
    | nx => exact ⟨ρ2, gh4, st5, re4, R4, S14, f5⟩
    | cont => exact ⟨ρ2, gh4, st5, re4, R4, S14, f5⟩
    | brk =>
      obtain ⟨rfl, rfl⟩ := pure_ok f5
      exact fin S14 R4 re4
    | ret w =>
      obtain ⟨rfl, rfl⟩ := pure_ok f5
      exact fin S14 R4 re4
  · rintro σ' H2 ⟨ρ', gh2, st2', re2, R2, S2, e4⟩
    rw [List.drop_length] at e4
    obtain ⟨rfl, rfl⟩ := pure_ok e4
    exact fin S2 R2 re2
theorem ps_forD (O : Ops g X) {tg it : Expr} {a : List Stmt} {t : Tgt} {si : Si} {body : Ss} {pos : Pos} (hp : PassesOwn (model X.prog X.w) X.A X.env X.xe) (hs : isSet it = false) (hi : PI X tg it (tI g cl si)) (ht : PG X tg (tG g t)) (hb : PSs X a (tS g cl body)) :
    PS X (.For tg it a [] pos) (tS g cl (sFor t si body)) := PS.to (ps_for hp O.calm hi ht hb (by intro x; cases it <;> first | rfl | cases hs)) fun D σ H h => t_for h

/-! ### while -/
theorem t_while {t : Sm Bool} {body : Ss} {D : Ends} {σ : L2.St} {H : Hp} (h : tS g cl (sWhile t body) D σ H) : tWhile (tB g cl t) (tS g cl body) D σ H := by
  obtain ⟨ρ, gh, st, r, st', re, R, e, q⟩ := h
  refine ⟨fun m σ' H2 => ∃ ρ' gh2 st2, RE g gh2 ρ' σ' ∧ Rep g gh2 st2 H2 ∧ Stp gh gh2 st st2 H H2 ∧ whileLoop (t cl) (body cl) m ρ' st2 = .ok r st', ⟨wFuel, ρ, gh, st, re, R, .refl _ _ _, e⟩, ?_⟩
  rintro m σ' H2 ⟨ρ', gh2, st2, re2, R2, S2, e2⟩
  cases m with
  | zero => cases e2
  | succ m =>
    obtain ⟨b, st3, e3, f3⟩ := bind_ok (f := t cl ρ') e2
    refine ⟨ρ', gh2, st2, b, st3, re2, R2, e3, fun gh3 H3 S3 R3 => ?_⟩
    have S13 := S2.trans R R2 S3
    cases b with
    | false =>
      obtain ⟨rfl, rfl⟩ := pure_ok f3
      show (if false = true then _ else _)
      rw [if_neg Bool.false_ne_true]
      exact q σ' gh3 H3 S13 R3 (re2.mono S3)
    | true =>
      obtain ⟨rb, st4, e4, f4⟩ := bind_ok (f := body cl ρ') f3
      obtain ⟨fl, ρ2⟩ := rb
      show (if true = true then _ else _)
      rw [if_pos rfl]
      refine ⟨_, fun σ5 H5 w => ⟨m, Nat.lt_succ_self m, w⟩, ρ', gh3, st3, (fl, ρ2), st4, re2.mono S3, R3, e4, fun σ4 gh4 H4 S4 R4 re4 => ?_⟩
      have S14 := S13.trans R R3 S4
      cases fl with
      | nx => exact ⟨ρ2, gh4, st4, re4, R4, S14, f4⟩
      | cont => exact ⟨ρ2, gh4, st4, re4, R4, S14, f4⟩
      | brk =>
        obtain ⟨rfl, rfl⟩ := pure_ok f4
        exact q σ4 gh4 H4 S14 R4 re4
      | ret w =>
        obtain ⟨rfl, rfl⟩ := pure_ok f4
        exact q σ4 gh4 H4 S14 R4 re4
theorem ps_whileD {c : Expr} {a : List Stmt} {t : Sm Bool} {body : Ss} {pos : Pos} (hp : PassesOwn (model X.prog X.w) X.A X.env X.xe) (hc : PT X c (tB g cl t)) (hb : PSs X a (tS g cl body)) : PS X (.While c a [] pos) (tS g cl (sWhile t body)) :=
  PS.to (ps_while hp hc hb) fun D σ H h => t_while h

/-! ### blocks, small statements -/
theorem pss_nilD : PSs X [] (tS g cl sNext) := PSs.to pss_nil fun D σ H h => by
  obtain ⟨ρ, gh, st, r, st', re, R, e, q⟩ := h
  obtain ⟨rfl, rfl⟩ := pure_ok e
  exact q σ gh H (.refl _ _ _) R re
theorem pss_consD {s : Stmt} {ss : List Stmt} {a b : Ss} (h1 : PS X s (tS g cl a)) (h2 : PSs X ss (tS g cl b)) : PSs X (s :: ss) (tS g cl (sSeq a b)) := PSs.to (pss_cons h1 h2) fun D σ H h => by
  obtain ⟨ρ, gh, st, r, st', re, R, e, q⟩ := h
  obtain ⟨r1, st1, e1, f1⟩ := bind_ok e
  obtain ⟨fl, ρ1⟩ := r1
  refine ⟨ρ, gh, st, (fl, ρ1), st1, re, R, e1, fun σ' gh1 H1 S1 R1 re1 => ?_⟩
  cases fl with
  | nx => exact ⟨ρ1, gh1, st1, r, st', re1, R1, f1, fun σ2 gh2 H2 S2 R2 re2 => q σ2 gh2 H2 (S1.trans R R1 S2) R2 re2⟩
  | brk =>
    obtain ⟨rfl, rfl⟩ := pure_ok f1
    exact q σ' gh1 H1 S1 R1 re1
  | cont =>
    obtain ⟨rfl, rfl⟩ := pure_ok f1
    exact q σ' gh1 H1 S1 R1 re1
  | ret w =>
    obtain ⟨rfl, rfl⟩ := pure_ok f1
    exact q σ' gh1 H1 S1 R1 re1
theorem ps_passD {pos : Pos} : PS X (.Pass pos) (tS g cl sNext) := PS.to ps_pass fun D σ H h => by
  obtain ⟨ρ, gh, st, r, st', re, R, e, q⟩ := h
  obtain ⟨rfl, rfl⟩ := pure_ok e
  exact q σ gh H (.refl _ _ _) R re
theorem ps_docD {x : Str} {j : Nat} {pos pos' : Pos} : PS X (.Expr (.Constant (.str x) j pos) pos') (tS g cl sNext) := PS.to ps_doc fun D σ H h => by
  obtain ⟨ρ, gh, st, r, st', re, R, e, q⟩ := h
  obtain ⟨rfl, rfl⟩ := pure_ok e
  exact q σ gh H (.refl _ _ _) R re
theorem ps_breakD {pos : Pos} : PS X (.Break pos) (tS g cl sBreak) := PS.to ps_break fun D σ H h => by
  obtain ⟨ρ, gh, st, r, st', re, R, e, q⟩ := h
  obtain ⟨rfl, rfl⟩ := pure_ok e
  exact q σ gh H (.refl _ _ _) R re
theorem ps_contD {pos : Pos} : PS X (.Continue pos) (tS g cl sCont) := PS.to ps_continue fun D σ H h => by
  obtain ⟨ρ, gh, st, r, st', re, R, e, q⟩ := h
  obtain ⟨rfl, rfl⟩ := pure_ok e
  exact q σ gh H (.refl _ _ _) R re
theorem ps_noD {s : Stmt} : PS X s (tS g cl sNo) := PS.to ps_never fun D σ H h => by
  obtain ⟨ρ, gh, st, r, st', re, R, e, q⟩ := h
  cases e
theorem ps_retD {e : Expr} {f : Sm W} {pos : Pos} (h : PE X e (tD g cl f)) : PS X (.Return (some e) pos) (tS g cl (sRet f)) := PS.to (ps_ret h) fun D σ H h => by
  obtain ⟨ρ, gh, st, r, st', re, R, e, q⟩ := h
  obtain ⟨w, st1, e1, f1⟩ := bind_ok e
  obtain ⟨rfl, rfl⟩ := pure_ok f1
  exact ⟨ρ, gh, st, w, _, re, R, e1, fun v gh1 H1 S1 R1 r1 => q σ gh1 H1 S1 R1 (re.mono S1) v r1⟩
theorem ps_retND {pos : Pos} : PS X (.Return none pos) (tS g cl (sRet (eD .none))) := PS.to ps_retN fun D σ H h => by
  obtain ⟨ρ, gh, st, r, st', re, R, e, q⟩ := h
  obtain ⟨rfl, rfl⟩ := pure_ok e
  exact q σ gh H (.refl _ _ _) R re .non .non
theorem ps_ifD {c : Expr} {a b : List Stmt} {t : Sm Bool} {f h : Ss} {pos : Pos} (hc : PT X c (tB g cl t)) (ha : PSs X a (tS g cl f)) (hb : PSs X b (tS g cl h)) : PS X (.If c a b pos) (tS g cl (sIf t f h)) := PS.to (ps_if hc ha hb) fun D σ H h => by
  obtain ⟨ρ, gh, st, r, st', re, R, e, q⟩ := h
  obtain ⟨b, st1, e1, f1⟩ := bind_ok e
  refine ⟨ρ, gh, st, b, st1, re, R, e1, fun gh1 H1 S1 R1 => ?_⟩
  cases b with
  | true =>
    show (if true = true then _ else _)
    rw [if_pos rfl]
    exact ⟨ρ, gh1, st1, r, st', re.mono S1, R1, f1, fun σ2 gh2 H2 S2 R2 re2 => q σ2 gh2 H2 (S1.trans R R1 S2) R2 re2⟩
  | false =>
    show (if false = true then _ else _)
    rw [if_neg Bool.false_ne_true]
    exact ⟨ρ, gh1, st1, r, st', re.mono S1, R1, f1, fun σ2 gh2 H2 S2 R2 re2 => q σ2 gh2 H2 (S1.trans R R1 S2) R2 re2⟩
theorem no_swap {e : Expr} (h : isCompE e = false) (t : Option Expr) (l : Nat) (env : PySem.Env) : swapsWith e t l env = pure false := by
  cases e <;> first | rfl | cases h
theorem sole_no {e : Expr} (h : isCompE e = false) (t : Expr) (l : Nat) (env : PySem.Env) : swapsWithSole [t] e l env = pure false := by
  unfold swapsWithSole
  exact no_swap h ..
theorem ps_dropD {e : Expr} {f : Sm W} {pos : Pos} (hc : isCompE e = false) (h : PE X e (tD g cl f)) : PS X (.Expr e pos) (tS g cl (sDrop f)) := PS.to (ps_expr h (no_swap hc ..)) fun D σ H h => by
  obtain ⟨ρ, gh, st, r, st', re, R, e, q⟩ := h
  obtain ⟨w, st1, e1, f1⟩ := bind_ok e
  obtain ⟨rfl, rfl⟩ := pure_ok f1
  exact ⟨ρ, gh, st, w, _, re, R, e1, fun v gh1 H1 S1 R1 r1 => q σ gh1 H1 S1 R1 (re.mono S1)⟩
theorem t_set {i : Nat} {f : Sm W} {D : Ends} {σ : L2.St} {H : Hp} (h : tS g cl (sSet i f) D σ H) : tAsg (tD g cl f) (gName i) D σ H := by
  obtain ⟨ρ, gh, st, r, st', re, R, e, q⟩ := h
  obtain ⟨w, st1, e1, f1⟩ := bind_ok e
  obtain ⟨rfl, rfl⟩ := pure_ok f1
  exact ⟨ρ, gh, st, w, _, re, R, e1, fun v gh1 H1 S1 R1 r1 => q (σ.set i (some v)) gh1 H1 S1 R1 ((re.mono S1).set i r1)⟩
theorem ps_setD {i : Nat} {x : Str} {e : Expr} {f : Sm W} {pos pos' : Pos} (hN : X.N.Nodup) (hi : X.N[i]? = some x) (hx : Loc X.env.scope x) (hf : X.fn x = true ∨ X.env.scope.names.lookup x = some .local) (hs : swapsWith e (some (.Name x pos')) pos.line X.env = pure false) (h : PE X e (tD g cl f)) :
    PS X (.Assign [.Name x pos'] e pos) (tS g cl (sSet i f)) := PS.to (ps_set hN hi hx h hs hf) fun D σ H h => t_set h
theorem ps_asgD {tg e : Expr} {t : Tgt} {f : Sm W} {pos : Pos} (hs : swapsWithSole [tg] e pos.line X.env = pure false) (hw : swappedStores [tg] e X.env = pure none) (hst : isStar tg = false) (ht : PG X tg (tG g t)) (h : PE X e (tD g cl f)) :
    PS X (.Assign [tg] e pos) (tS g cl (sAsg t f)) := PS.to (ps_asg h ht hs hw (by rw [isStar_asg hst]; rfl)) fun D σ H h => by
  obtain ⟨ρ, gh, st, r, st', re, R, e, q⟩ := h
  obtain ⟨w, st1, e1, f1⟩ := bind_ok e
  obtain ⟨a, st2, e2, f2⟩ := bind_ok f1
  obtain ⟨ρ', st3, e3, f3⟩ := bind_ok f2
  obtain ⟨rfl, rfl⟩ := pure_ok f3
  obtain ⟨k3, h3⟩ := opt_ok e3
  subst h3
  refine ⟨ρ, gh, st, w, st1, re, R, e1, fun v gh1 H1 S1 R1 r1 => ?_⟩
  cases w with
  | d x =>
    obtain ⟨rfl, rfl⟩ := pure_ok e2
    exact ⟨ρ, gh1, _, a, ρ', re.mono S1, R1, r1, k3, fun σ' re2 _ _ => q σ' gh1 H1 S1 R1 re2⟩
  | _ => cases e2
/-! ### a, b = x, y -/
theorem ite_ok {α β : Type} {c : Bool} {a b : Sem α} {x y : Option β} {r : β} {k : Sem α} (h : (if c = true then x else y) = some r) (h1 : x = some r → a = k) (h2 : y = some r → b = k) : (if c = true then a else b) = k := by
  cases c with
  | true => exact h1 h
  | false => exact h2 h
theorem swP_ok {sc : Scope} {ts vs : List Expr} {r : Option (List Str)} {k k2 : Nat} {p p2 : Pos} (hs : X.env.scope = sc) (hk : X.env.scope.kind = .function) (h : swP sc ts vs = some r) : swappedStores [.Tuple ts k p] (.Tuple vs k2 p2) X.env = pure r := by
  have hb : (X.env.blockKind != .function) = false := by unfold PySem.Env.blockKind; rw [hk]; rfl
  have fin : ∀ {x : Option (List Str)}, some x = some r → (pure x : Sem (Option (List Str))) = pure r := fun e => by cases e; rfl
  unfold swP at h
  unfold swappedStores
  simp only [hb, Bool.or_false]
  subst hs
  refine ite_ok h fin fun h => ?_
  refine ite_ok h fin fun h => ?_
  show (if ((swNames X.env.scope ts).length != ts.length || (swNames X.env.scope ts).eraseDups.length != (swNames X.env.scope ts).length) = true then _ else _) = _
  refine ite_ok h fin fun h => ?_
  refine ite_ok h fin fun h => ?_
  refine ite_ok h (fun e => by cases e) fin
theorem t_par2 {i j : Nat} {f1 f2 : Sm W} {D : Ends} {σ : L2.St} {H : Hp} (h : tS g cl (sPar [i, j] [f1, f2]) D σ H) : tPar i j (tWs g cl (evalsR [f1, f2])) D σ H := by
  obtain ⟨ρ, gh, st, r, st', re, R, e, q⟩ := h
  obtain ⟨ws, st1, e1, g1⟩ := bind_ok e
  obtain ⟨rfl, rfl⟩ := pure_ok g1
  refine ⟨ρ, gh, st, ws, _, re, R, e1, fun vs gh1 H1 S1 R1 r1 => ?_⟩
  have hl : ws.length = 2 := by
    obtain ⟨w1, s1, a1, b1⟩ := bind_ok (f := f1 cl ρ) e1
    obtain ⟨xs, s2, a2, b2⟩ := bind_ok (f := evalsR [f2] cl ρ) b1
    obtain ⟨rfl, rfl⟩ := pure_ok b2
    obtain ⟨w2, s3, a3, b3⟩ := bind_ok (f := f2 cl ρ) a2
    obtain ⟨ys, s4, a4, b4⟩ := bind_ok (f := evalsR [] cl ρ) b3
    obtain ⟨rfl, rfl⟩ := pure_ok b4
    obtain ⟨rfl, rfl⟩ := pure_ok a4
    rfl
  match ws, vs, r1, hl with
  | [w1, w2], [v1, v2], ⟨a, b, _⟩, _ => exact ⟨v1, v2, rfl, q _ gh1 H1 S1 R1 (((re.mono S1).set i a).set j b)⟩
theorem t_par3 {i j l : Nat} {f1 f2 f3 : Sm W} {D : Ends} {σ : L2.St} {H : Hp} (h : tS g cl (sPar [i, j, l] [f1, f2, f3]) D σ H) : tPar3 i j l (tWs g cl (evalsR [f1, f2, f3])) D σ H := by
  obtain ⟨ρ, gh, st, r, st', re, R, e, q⟩ := h
  obtain ⟨ws, st1, e1, g1⟩ := bind_ok e
  obtain ⟨rfl, rfl⟩ := pure_ok g1
  refine ⟨ρ, gh, st, ws, _, re, R, e1, fun vs gh1 H1 S1 R1 r1 => ?_⟩
  have hl : ws.length = 3 := by
    obtain ⟨w1, s1, a1, b1⟩ := bind_ok (f := f1 cl ρ) e1
    obtain ⟨xs, s2, a2, b2⟩ := bind_ok (f := evalsR [f2, f3] cl ρ) b1
    obtain ⟨rfl, rfl⟩ := pure_ok b2
    obtain ⟨w2, s3, a3, b3⟩ := bind_ok (f := f2 cl ρ) a2
    obtain ⟨ys, s4, a4, b4⟩ := bind_ok (f := evalsR [f3] cl ρ) b3
    obtain ⟨rfl, rfl⟩ := pure_ok b4
    obtain ⟨w3, s5, a5, b5⟩ := bind_ok (f := f3 cl ρ) a4
    obtain ⟨zs, s6, a6, b6⟩ := bind_ok (f := evalsR [] cl ρ) b5
    obtain ⟨rfl, rfl⟩ := pure_ok b6
    obtain ⟨rfl, rfl⟩ := pure_ok a6
    rfl
  match ws, vs, r1, hl with
  | [w1, w2, w3], [v1, v2, v3], ⟨a, b, c, _⟩, _ => exact ⟨v1, v2, v3, rfl, q _ gh1 H1 S1 R1 ((((re.mono S1).set i a).set j b).set l c)⟩
/-! ### the general road: a tuple that nothing keeps -/
/-- the names' slots, one after another -/
def gNames : List Nat → TGs
  | [] => gNil
  | i :: is => gCons (gName i) (gNames is)
theorem gNames_at : ∀ {is : List Nat} {ws : List W} {vs : List V} {gh : Gh} {ρ : Env} {σ : L2.St} {H : Hp} {Q : L2.St → Hp → Prop}, is.length = ws.length → RWs g gh ws vs → RE g gh ρ σ → (∀ σ', RE g gh (setAll is ws ρ) σ' → Q σ' H) → gNames is vs σ H Q
  | [], [], [], _, _, _, _, _, _, _, re, q => ⟨rfl, q _ re⟩
  | i :: is, w :: ws, v :: vs, _, _, _, _, _, hl, ⟨r, rs⟩, re, q => ⟨v, vs, rfl, gNames_at (by simpa using hl) rs (re.set i r) q⟩
  | [], _ :: _, _, _, _, _, _, _, hl, _, _, _ => by cases hl
  | _ :: _, [], _, _, _, _, _, _, hl, _, _, _ => by cases hl
  | [], [], _ :: _, _, _, _, _, _, _, h, _, _ => h.elim
  | _ :: _, _ :: _, [], _, _, _, _, _, _, h, _, _ => h.elim
theorem evalsR_len : ∀ {fs : List (Sm W)} {ρ : Env} {st st' : Store} {ws : List W}, evalsR fs cl ρ st = .ok ws st' → ws.length = fs.length
  | [], _, _, _, _, e => by
    obtain ⟨rfl, rfl⟩ := pure_ok e
    rfl
  | f :: fs, ρ, _, _, _, e => by
    obtain ⟨x, st1, e1, f1⟩ := bind_ok (f := f cl ρ) e
    obtain ⟨xs, st2, e2, f2⟩ := bind_ok (f := evalsR fs cl ρ) f1
    obtain ⟨rfl, rfl⟩ := pure_ok f2
    rw [List.length_cons, List.length_cons, evalsR_len e2]
theorem RWs.len' {gh : Gh} {ws : List W} {vs : List V} (h : RWs g gh ws vs) : ws.length = vs.length := h.len
theorem t_parN (O : Ops g X) {is : List Nat} {fs : List (Sm W)} {n : Nat} (hl : is.length = fs.length) (hn : fs.length = n) (hz : n ≤ 1000) {D : Ends} {σ : L2.St} {H : Hp} (h : tS g cl (sPar is fs) D σ H) : tAsg (tTup (tWs g cl (evalsR fs))) (gTup X.K n (gNames is)) D σ H := by
  obtain ⟨ρ, gh, st, r, st', re, R, e, q⟩ := h
  obtain ⟨ws, st1, e1, g1⟩ := bind_ok e
  obtain ⟨rfl, rfl⟩ := pure_ok g1
  have hws := evalsR_len e1
  refine ⟨ρ, gh, st, ws, _, re, R, e1, fun vs gh1 H1 S1 R1 r1 => ⟨?_, fun p hp => ?_⟩⟩
  · rw [← r1.len, hws, hn]
    exact le_line hz
  · obtain ⟨R2, S2⟩ := R1.junk (H' := upd H1 p (.tup vs)) fun b u h => by rw [upd_ne (ne_of_none h hp)]; exact h
    exact ⟨p, vs, rfl, .inl (.inl upd_same), by rw [← r1.len, hws, hn], gNames_at (by rw [hl, hws]) r1 (re.mono S1) fun σ' re' => q σ' gh1 _ (S1.trans R R1 S2) R2 re'⟩

/-! ### o[i] = e -/
def rPutAll (g : G) : TSet := fun o i v H Q => rSetL o i v H Q ∨ rPutD g o i v H Q
theorem set_all (O : Ops g X) : PSet X (rPutAll g) := by
  intro pins s σ H o i v ov iv u Q I ro ri rv h
  rcases h with h | h
  · exact set_list pins s σ H o i v ov iv u Q I ro ri rv h
  · exact set_dict O pins s σ H o i v ov iv u Q I ro ri rv h
theorem ps_putD (O : Ops g X) {o i e : Expr} {f h k : Sm W} {p pos : Pos} (hsl : isSlice i = false) (hc : isCompE e = false) (ho : PE X o (tD g cl f)) (hi : PE X i (tD g cl h)) (he : PE X e (tD g cl k)) :
    PS X (.Assign [.Subscript o i p] e pos) (tS g cl (sPut f h k)) :=
  PS.to (ps_asg he (pg_sub ho hi (set_all O) (by cases i <;> first | (intro v; rfl) | cases hsl)) (hs := sole_no hc _ _ _) (hw := by cases e <;> rfl)) fun D σ H t => by
    obtain ⟨ρ, gh, st, r, st', re, R, e, q⟩ := t
    obtain ⟨w, st1, e1, f1⟩ := bind_ok e
    obtain ⟨v, st2, e2, f2⟩ := bind_ok f1
    obtain ⟨ow, st3, e3, f3⟩ := bind_ok f2
    obtain ⟨ix, st4, e4, f4⟩ := bind_ok f3
    obtain ⟨iw, st4', e4', e4''⟩ := bind_ok e4
    obtain ⟨pp, st5, e5, f5⟩ := bind_ok f4
    obtain ⟨a, st6, e6, f6⟩ := bind_ok f5
    obtain ⟨u, st7, e7, f7⟩ := bind_ok f6
    obtain ⟨rfl, rfl⟩ := pure_ok f7
    obtain ⟨k6, h6⟩ := opt_ok e6
    obtain ⟨h5, rfl, hcell⟩ := live_at e5
    subst h6
    subst h5
    have h7 := set_box hcell e7
    subst h7
    refine ⟨ρ, gh, st, w, st1, re, R, e1, fun xv gh1 H1 S1 R1 r1 => ?_⟩
    obtain ⟨gh2, S2, R2, d2⟩ := toD_ok R1 r1 e2
    have S12 := S1.trans R R1 S2
    refine ⟨ρ, gh2, st2, _, st3, re.mono S12, R2, e3, fun xo gh3 H3 S3 R3 r3 => ⟨ρ, gh3, st3, iw, _, (re.mono S12).mono S3, R3, e4', fun xi gh4 H4 S4 R4 r4 => ?_⟩⟩
    obtain ⟨rfl, ni⟩ := deref_now R4 r4 e4''
    obtain ⟨pa, ha, rfl⟩ := r3.mono S4
    have hc4 := R4.cell pp.1 _ pa hcell ha
    have S14 := (S12.trans R R2 S3).trans R R3 S4
    have d4 : Dp g.K gh4.F xv v := dp_same S4.F (dp_same S3.F d2)
    have fin : ∀ ob, CellOk g gh4.F (upd H4 pa ob) ⟨a, .live⟩ pa → D.nx σ (upd H4 pa ob) := fun ob hn => by
      obtain ⟨R5, S5⟩ := R4.write hcell ha (cell_free hc4) ob hn
      exact q σ gh4 _ (S14.trans R R4 S5) R5 ((re.mono S14).mono S5)
    obtain ⟨pi, pv⟩ := pp
    cases pv with
    | list xs =>
      obtain ⟨vs, z1, z2, z3⟩ := cell_lst hc4
      cases ix <;> simp only [putD, reduceCtorEq] at k6
      obtain ⟨j, hj, rfl⟩ := Option.map_eq_some_iff.mp k6
      exact .inl ⟨pa, vs, _, j, rfl, now_int ni, z1, by rw [dps_len z2]; exact hj, fin _ (cell_new (dps_set d4 j z2) z3)⟩
    | dict kvs =>
      obtain ⟨z1, z2⟩ := cell_dct hc4
      obtain ⟨z3, z4⟩ := ite_some (show (if keyFits kvs ix && decide (kvs.length < sizeLine) then some (PyData.dict (Ev.putK kvs ix v)) else none) = some a from k6)
      cases z4
      rw [Bool.and_eq_true, decide_eq_true_eq] at z3
      exact .inr ⟨gh4.F, kvs, ix, v, pa, ⟨rfl, R4.sub, z1, z3.1, now_key ni (fits_ok z3.1).1⟩, z3.2, d4, fun ob hob => fin ob (cell_newD hob z2)⟩
    | _ => cases k6
end Ev

set_option Elab.async false
set_option linter.all false
set_option maxRecDepth 100000
set_option maxHeartbeats 1000000
/-! What is read of a text is what the text does. -/
namespace Ev
open PySem PySem.Spec PyProof.Rows L2
variable {g : G} {cl : Calls} {X : Cx}

/-! ### built-ins by name -/
def biName : Bi → Str
  | .len => "len" | .abs => "abs" | .max => "max" | .min => "min" | .sum => "sum" | .all => "all" | .any => "any" | .sorted => "sorted"
  | .tint => "int" | .tbool => "bool" | .tstr => "str" | .ttuple => "tuple" | .tlist => "list" | .tdict => "dict"
  | .isinstance => "isinstance" | .range => "range" | .enumerate => "enumerate" | .zip => "zip" | .tset => "set"
def biVal : Bi → Value
  | .len => .builtin "len" | .abs => .builtin "abs" | .max => .builtin "max" | .min => .builtin "min" | .sum => .builtin "sum" | .all => .builtin "all" | .any => .builtin "any" | .sorted => .builtin "sorted"
  | .tint => .type "int" | .tbool => .type "bool" | .tstr => .type "str" | .ttuple => .type "tuple" | .tlist => .type "list" | .tdict => .type "dict"
  | .isinstance => .builtin "isinstance" | .range => .type "range" | .enumerate => .type "enumerate" | .zip => .type "zip" | .tset => .type "set"
theorem boot_bi : ∀ b : Bi, bootBuiltins (biName b) = some (biVal b) := by
  intro b
  cases b <;> decide +kernel
theorem bi_ok (O : Ops g X) {b : Bi} {k : List PyData → Option PyData} (h : biK b = some k) : k [] = none ∧ ∃ r, CallR X (biVal b) r ∧ CbOk g k r := by
  cases b <;> simp only [biK, reduceCtorEq] at h <;> cases h
  · exact ⟨rfl, _, cb_lenX O, ok_len⟩
  · exact ⟨rfl, _, call_abs, ok_abs⟩
  · exact ⟨rfl, _, (call_max2 O.calm).or (cb_maxX O), ok_max⟩
  · exact ⟨rfl, _, (call_min2 O.calm).or (cb_minX O), ok_min⟩
  · exact ⟨rfl, _, cr_sum O.calm, O.K ▸ ok_sum⟩
  · exact ⟨rfl, _, cr_all O.calm, O.K ▸ ok_all⟩
  · exact ⟨rfl, _, cr_any O.calm, O.K ▸ ok_any⟩
  · exact ⟨rfl, _, call_int1.or call_int_str, ok_int⟩
  · exact ⟨rfl, _, call_str_int, ok_str⟩
  · exact ⟨rfl, _, cb_tupleX O, ok_tuple⟩
/-- a built-in's name -/
structure BiAt (X : Cx) (x : Str) (b : Bi) : Prop where
  gl : Gl X x
  mg : X.mg x = none
  boot : bootBuiltins x = some (biVal b)
  hn : x ≠ "__name__"
  hd : (x == ("__debug__" : Str)) = false
theorem pe_callBi {x : Str} {b : Bi} {e : Expr} {es : List Expr} {r : List V → Hp → VK → Prop} {t : TA} {p pos : Pos} (B : BiAt X x b) (hc : CallR X (biVal b) r) (ha : PA X (e :: es) t) (hs : (e :: es).any isStar = false) :
    PE X (.Call (.Name x p) (e :: es) [] pos) (tCB r t) := by
  have hs' := hs
  rw [List.any_cons, Bool.or_eq_false_iff] at hs'
  have hv := B.boot
  cases h : biVal b with
  | builtin id => exact pe_callB (h ▸ hc) B.gl B.mg (h ▸ hv) ha B.hn B.hd (star_cons hs'.1) (star_plain hs'.2)
  | type T => exact pe_callTy (h ▸ hc) B.gl B.mg (h ▸ hv) ha B.hn B.hd (star_cons hs'.1) (star_plain hs'.2)
  | _ => cases b <;> simp [biVal] at h
theorem pe_falseD {e : Expr} {t : TE} (h : ∀ σ H Q, ¬ t σ H Q) : PE X e t := ⟨fun pins s σ H Q I hw => (h σ H Q hw).elim⟩
theorem pe_biD (O : Ops g X) {x : Str} {b : Bi} {k : List PyData → Option PyData} {es : List Expr} {fs : List (Sm W)} {p pos : Pos} (B : BiAt X x b) (hk : biK b = some k) (ha : PA X es (tWs g cl (evalsR fs))) (hl : fs.length = es.length) (hs : es.any isStar = false) :
    PE X (.Call (.Name x p) es [] pos) (tD g cl (eBi fs k)) := by
  obtain ⟨h0, r, hc, ho⟩ := bi_ok O hk
  cases es with
  | nil =>
    refine pe_falseD fun σ H Q t => ?_
    have e0 : fs = [] := List.eq_nil_of_length_eq_zero hl
    subst e0
    obtain ⟨ρ, gh, st, w, st', re, R, e, q⟩ := t
    obtain ⟨ws, st1, e1, f1⟩ := bind_ok e
    obtain ⟨rfl, rfl⟩ := pure_ok e1
    obtain ⟨ds, s2, e2, f2⟩ := bind_ok f1
    obtain ⟨rfl, rfl⟩ := pure_ok e2
    rw [h0] at f2
    cases f2
  | cons e es => exact PE.to (pe_callBi B hc ha hs) fun σ H Q t => t_bi ho t

/-! ### isinstance, list -/
theorem pe_isaD (O : Ops g X) {x y : Str} {T : Ty} {b' : Bi} {a : Expr} {f : Sm W} {p p2 pos : Pos} (B : BiAt X x .isinstance) (B' : BiAt X y b') (hT : biVal b' = .type (tyName T)) (hs : isStar a = false) (ha : PE X a (tD g cl f)) :
    PE X (.Call (.Name x p) [a, .Name y p2] [] pos) (tD g cl (eBi [f] (isaB T))) := by
  have hy : PE X (.Name y p2) (tC (.ty (tyName T))) := pe_bltn B'.gl B'.mg B'.boot (by rw [hT]; rfl) B'.hn B'.hd
  refine PE.to (pe_callBi B (cb_isaX O T) (pa_cons ha (pa_cons hy pa_nil (star_cons rfl)) (star_cons hs)) (by rw [List.any_cons, hs]; rfl)) fun σ H Q t => ?_
  obtain ⟨ρ, gh, st, w, st', re, R, e, q⟩ := t
  obtain ⟨ws, st1, e1, f1⟩ := bind_ok e
  obtain ⟨ds, s2, e2, f2⟩ := bind_ok f1
  obtain ⟨c, s5, e5, f5⟩ := bind_ok f2
  obtain ⟨rfl, rfl⟩ := pure_ok f5
  obtain ⟨k5, e6⟩ := opt_ok e5
  subst e6
  obtain ⟨w1, s1, a1, b1⟩ := bind_ok (f := f cl ρ) e1
  obtain ⟨zs, s3, a2, b2⟩ := bind_ok (f := evalsR [] cl ρ) b1
  obtain ⟨rfl, rfl⟩ := pure_ok b2
  obtain ⟨rfl, rfl⟩ := pure_ok a2
  refine ⟨ρ, gh, st, w1, _, re, R, a1, fun v gh1 H1 S1 R1 r1 => ?_⟩
  obtain ⟨rfl, n⟩ := derefs_now R1 (ws := [w1]) (vs := [v]) ⟨r1, trivial⟩ e2
  cases n with
  | cons n n' =>
    rename_i d ds
    cases n'
    have hd : isDict d = false ∧ c = .bool (isaD T d) := by
      cases d <;> first | (cases k5; exact ⟨rfl, rfl⟩) | (cases k5)
    refine ⟨v, d, rfl, now_dp R1.sub n (isDict_iff hd.1), ?_⟩
    rw [← show PyData.bool (isaD T d) = c from hd.2.symm] at q
    exact q _ gh1 H1 S1 R1 (.bl _)
theorem cn_list : CnOk g listB (fun xs H Q => ∃ p ys, xs = [.ref p] ∧ (SqL g.K H p ys ∨ SqT g.K H p ys) ∧ ∀ l, H l = none → Q (.ref l) (upd H l (.lst ys))) := by
  intro gh st H as c vs Q R n e q
  unfold listB at e
  split at e
  · cases e
    obtain ⟨v, rfl, m⟩ := now1 n
    obtain ⟨p, ws, rfl, h1, h2⟩ := now_list R.sub m
    exact ⟨p, ws, rfl, .inl h1, fun l hl => q l _ hl (cell_new h2 (R.sub.free hl))⟩
  · cases e
    obtain ⟨v, rfl, m⟩ := now1 n
    obtain ⟨p, ws, rfl, h1, _, h2⟩ := now_tup R.sub m
    exact ⟨p, ws, rfl, .inr h1, fun l hl => q l _ hl (cell_new h2 (R.sub.free hl))⟩
  · cases e
theorem pe_lstD (O : Ops g X) {x : Str} {a : Expr} {f : Sm W} {p pos : Pos} (B : BiAt X x .tlist) (hs : isStar a = false) (ha : PE X a (tD g cl f)) : PE X (.Call (.Name x p) [a] [] pos) (tN g cl (nBi [f] listB)) :=
  PE.to (pe_callBi B call_list_of (pa_consR hs ha pa_nilR) (by simp [hs])) fun σ H Q t => O.K ▸ t_nbi cn_list t
theorem pe_catD (O : Ops g X) {a b : Expr} {f h : Sm W} {pos : Pos} (ha : PE X a (tD g cl f)) (hb : PE X b (tD g cl h)) : PE X (.BinOp a .Add b pos) (tN g cl (nBi [f, h] catB)) :=
  PE.to (pe_op op_catL ha hb) fun σ H Q t => by
    obtain ⟨ρ, gh, st, d, st', re, R, e, q⟩ := t
    obtain ⟨ws, st1, e1, f1⟩ := bind_ok e
    obtain ⟨ds, s2, e2, f2⟩ := bind_ok f1
    obtain ⟨k5, e6⟩ := opt_ok f2
    subst e6
    obtain ⟨w1, s1, a1, b1⟩ := bind_ok (f := f cl ρ) e1
    obtain ⟨ys, s3, a2, b2⟩ := bind_ok (f := evalsR [h] cl ρ) b1
    obtain ⟨rfl, rfl⟩ := pure_ok b2
    obtain ⟨w2, s4, a3, b3⟩ := bind_ok (f := h cl ρ) a2
    obtain ⟨zs, s5, a4, b4⟩ := bind_ok (f := evalsR [] cl ρ) b3
    obtain ⟨rfl, rfl⟩ := pure_ok b4
    obtain ⟨rfl, rfl⟩ := pure_ok a4
    refine ⟨ρ, gh, st, w1, s1, re, R, a1, fun v gh1 H1 S1 R1 r1 => ⟨ρ, gh1, s1, w2, _, re.mono S1, R1, a3, fun u gh2 H2 S2 R2 r2 => ?_⟩⟩
    obtain ⟨rfl, n⟩ := derefs_now R2 (ws := [w1, w2]) (vs := [v, u]) ⟨r1.mono S2, r2, trivial⟩ e2
    cases n with
    | cons n1 n' =>
      rename_i da ds'
      cases n' with
      | cons n2 n3 =>
        rename_i db ds''
        cases n3
        have k5 : catB [da, db] = some d := k5
        unfold catB at k5
        split at k5
        · rename_i x y heq
          cases heq
          obtain ⟨hz, k6⟩ := ite_some (show (if x.length + y.length ≤ sizeLine then some (PyData.list (x ++ y)) else none) = some d from k5)
          cases k6
          obtain ⟨p1, ws1, rfl, z1, z2⟩ := now_list R2.sub n1
          obtain ⟨p2, ws2, rfl, z3, z4⟩ := now_list R2.sub n2
          refine ⟨p1, p2, ws1, ws2, rfl, rfl, O.K ▸ z1, O.K ▸ z3, by rw [dps_len z2, dps_len z4]; exact hz, fun l hl => ?_⟩
          exact q l _ gh2 H2 (S1.trans R R1 S2) R2 hl (cell_new (dps_app z2 z4) (R2.sub.free hl))
        · cases k5
theorem pe_newDict {pos : Pos} : PE X (.Dict [] [] pos) (tN g cl fun _ _ => M.pure (.dict [])) := PE.to pe_dnewK fun σ H Q t => by
  obtain ⟨ρ, gh, st, d, st', re, R, e, q⟩ := t
  obtain ⟨rfl, rfl⟩ := pure_ok e
  exact fun p hp => q p _ gh H (.refl _ _ _) R hp (cell_newD (.inl ⟨[], rfl, .nil⟩) (R.sub.free hp))
/-- a tuple of the top, its index -/
theorem pe_topIdx (O : Ops g X) {o a : Expr} {ds : List PyData} {v : V} {f : Sm W} {ap pos : Pos} (ho : PE X o (tC v)) (hv : ∀ F, Dp g.K F v (.tuple ds)) (hk : ∃ a o, v = .ref a ∧ g.K.lookup a = some o ∧ o.cls = .type "tuple" ∧ o.dict = none) (hb : baseOk o = true) (hline : (ap.endLine == pos.line) = true) (hs : isStar a = false)
    (ha : PE X a (tD g cl f)) : PE X (.Call (.Attribute o "index" ap) [a] [] pos) (tD g cl (eBi [eD (.tuple ds), f] indexT)) :=
  PE.to (pe_meth (name := "index") ho (pa_consR hs ha pa_nilR) hb hline (by simp [hs]) (by show 1 < 20; decide)) fun σ H Q t => by
    obtain ⟨ρ, gh, st, w, st', re, R, e, q⟩ := t
    obtain ⟨ws, st1, e1, f1⟩ := bind_ok e
    obtain ⟨es, s2, e2, f2⟩ := bind_ok f1
    obtain ⟨c, s5, e5, f5⟩ := bind_ok f2
    obtain ⟨rfl, rfl⟩ := pure_ok f5
    obtain ⟨k5, e6⟩ := opt_ok e5
    subst e6
    have e1' : M.bind (eD (.tuple ds) cl ρ) (fun w => M.bind (evalsR [f] cl ρ) fun xs => M.pure (w :: xs)) st = .ok ws st1 := e1
    obtain ⟨w1, s1, a1, b1⟩ := bind_ok e1'
    obtain ⟨rfl, rfl⟩ := pure_ok a1
    obtain ⟨ys, s3, a2, b2⟩ := bind_ok (f := evalsR [f] cl ρ) b1
    obtain ⟨rfl, rfl⟩ := pure_ok b2
    obtain ⟨p, ob, rfl, hl, hc, hd⟩ := hk
    refine ⟨"tuple", "tuple.index", rIdx g true, ⟨PySem.F.plainAttrs_tuple, PySem.F.slot_tuple_index, PySem.F.type_tuple_index, mt_idxT O⟩, fun pins s σ v I r => tyV_is I r (.inr (.inl ⟨rfl, ob, O.K ▸ hl, hc, hd⟩)), ρ, gh, _, ys, _, re, R, a2, fun vs gh1 H1 S1 R1 r1 => ?_⟩
    obtain ⟨rfl, n⟩ := derefs_now R1 (ws := .d (.tuple ds) :: ys) (vs := .ref p :: vs) ⟨hv _, r1⟩ e2
    have k5 : indexT es = some c := k5
    unfold indexT at k5
    split at k5
    · rename_i xs y _h
      obtain ⟨h1, k6⟩ := ite_some k5
      obtain ⟨j, hj, rfl⟩ := Option.map_eq_some_iff.mp k6
      obtain ⟨v1, u, e7, m1, m2⟩ := now2 n
      cases e7
      obtain ⟨p', ws, e8, k1, _, k2⟩ := now_tup R1.sub m1
      cases e8
      obtain ⟨hd', hz⟩ := sh_dp R1.sub m2 h1
      exact ⟨p, u, y, ws, xs, j, rfl, rfl, k1, dps_same R1.sub k2, hd', hz, hj, q _ gh1 H1 S1 R1 (.int _)⟩
    · cases k5

/-! ### what a def promises -/
def spD (g : G) (tbl : List FnD) (k i : Nat) : Sp := fun vs H Q _ => ∃ gh st ws w st', Rep g gh st H ∧ RWs g gh ws vs ∧ callD tbl k i ws st = .ok w st' ∧ ∀ v gh' H', Stp gh gh' st st' H H' → Rep g gh' st' H' → RW g gh' w v → Q v H'
/-- a def as it stands behind the top -/
structure DefAt (g : G) (i : Nat) (fd : FuncData) (ps : List Str) : Prop where
  keep : PySem.W.keepIn g.K (.ref (g.at_ i)) = true
  binds : Binds g.K fd ps []
/-- the defs at level k -/
def DefsOk (g : G) (tbl : List FnD) (k : Nat) : Prop := ∀ i fd, tbl[i]? = some fd → ∃ (d : FuncData) (ps : List Str), FnOk g.P g.w g.K g.mg g.base CX0 k (g.at_ i) d ps (spD g tbl k i) ∧ DefAt g i d ps
/-- the names of the top -/
structure GlOk (g : G) (gl : List (Str × Gk)) (tbl : List FnD) : Prop where
  fn : ∀ x i, gl.lookup x = some (.fn i) → g.mg x = some (.ref (g.at_ i))
  val : ∀ x d, gl.lookup x = some (.val d) → ∃ v u, g.mg x = some u ∧ RelV v u ∧ (∀ F, Dp g.K F v d) ∧ (isTup d = true → ∃ a o, v = .ref a ∧ g.K.lookup a = some o ∧ o.cls = .type "tuple" ∧ o.dict = none)
  bi : ∀ x b, gl.lookup x = some (.bi b) → x = biName b ∧ g.mg x = none
/-- a body or a block of it -/
structure Good (g : G) (tbl : List FnD) (k : Nat) (C : EC) (X : Cx) : Prop where
  O : Ops g X
  base : X.base = g.base
  mg : X.mg = g.mg
  gl : GlOk g C.gl tbl
  defs : DefsOk g tbl k
  N : X.N = C.N
  nd : C.N.Nodup
  sc : X.env.scope = C.sc
  kind : C.sc.kind = .function
  xe : X.xe = fun _ _ => False
  room : Room k X.A
  fn : X.fn = C.fn
end Ev

set_option Elab.async false
set_option linter.all false
set_option maxRecDepth 100000
set_option maxHeartbeats 1000000
/-! The induction over the text. -/
namespace Ev
open PySem PySem.Spec PyProof.Rows L2
variable {g : G} {tbl : List FnD} {k : Nat} {C : EC} {X : Cx}

/-! ### facts of a context -/
theorem idx_at {N : List Str} {x : Str} {i : Nat} (h : N.idxOf? x = some i) : N[i]? = some x := by
  unfold List.idxOf? at h
  obtain ⟨h1, h2, _⟩ := List.findIdx?_eq_some_iff_getElem.mp h
  rw [List.getElem?_eq_getElem h1]
  exact congrArg some (eq_of_beq h2)
theorem dbg_no {x : Str} (h : dbg x = false) : (x == ("__debug__" : Str)) = false ∧ (x == ("__classdict__" : Str)) = false := by
  unfold dbg at h
  rw [Bool.or_eq_false_iff] at h
  exact h
theorem vis_ok (Γ : Good g tbl k C X) {x : Str} {i : Nat} (h : vis C x = some i) : X.N[i]? = some x ∧ Vis X.env.scope x ∧ (x == ("__debug__" : Str)) = false ∧ (x == ("__classdict__" : Str)) = false := by
  unfold vis at h
  split at h
  · cases h
  · rename_i hd
    obtain ⟨d1, d2⟩ := dbg_no (Bool.eq_false_iff.mpr hd)
    rw [Γ.N, Γ.sc]
    split at h
    · rename_i e
      exact ⟨idx_at h, .inl e, d1, d2⟩
    · rename_i e
      exact ⟨idx_at h, .inr (.inl e), d1, d2⟩
    · rename_i e
      exact ⟨idx_at h, .inr (.inr e), d1, d2⟩
    · cases h
theorem glob_ok (Γ : Good g tbl k C X) {x : Str} {q : Gk} (h : glob C x = some q) : Gl X x ∧ C.gl.lookup x = some q ∧ (x == ("__debug__" : Str)) = false := by
  unfold glob at h
  split at h
  · rename_i e
    split at h
    · cases h
    · rename_i hd
      refine ⟨?_, h, (dbg_no (Bool.eq_false_iff.mpr hd)).1⟩
      show X.env.scope.names.lookup x = _
      rw [Γ.sc]
      exact e
  · cases h
theorem bi_name (b : Bi) : biName b ≠ "__name__" := by cases b <;> decide
theorem bi_at (Γ : Good g tbl k C X) {x : Str} {b : Bi} (h : glob C x = some (.bi b)) : BiAt X x b := by
  obtain ⟨h1, h2, h3⟩ := glob_ok Γ h
  obtain ⟨rfl, h4⟩ := Γ.gl.bi x b h2
  exact ⟨h1, by rw [Γ.mg]; exact h4, boot_bi b, bi_name b, h3⟩
theorem stor_ok (Γ : Good g tbl k C X) {x : Str} {i : Nat} (h : stor C x = some i) : X.N[i]? = some x ∧ Loc X.env.scope x ∧ (X.fn x = true ∨ X.env.scope.names.lookup x = some .local) := by
  unfold stor at h
  rw [Γ.N, Γ.sc, Γ.fn]
  split at h
  · rename_i e
    exact ⟨idx_at h, .inl e, .inr e⟩
  · rename_i e
    split at h
    · rename_i hf
      exact ⟨idx_at h, .inr e, .inl hf⟩
    · cases h
  · cases h
theorem good_blk (Γ : Good g tbl k C X) {scope : Scope} {own : List (Str × Nat)} (hk : scope.kind = .function) (s : Shared) (H : Hp) (A : Addr) (cl : List (Str × Addr)) (fp : List Addr) : Good g tbl k (blkCtx C scope own) (X.blk s H scope (compEnvC scope cl A X.env) fp) where
  O := ⟨Γ.O.K, Γ.O.P, Γ.O.w, Γ.O.hu, Γ.O.calm⟩
  base := Γ.base
  mg := Γ.mg
  gl := Γ.gl
  defs := Γ.defs
  N := Γ.N
  nd := Γ.nd
  sc := by
    show relabel scope X.env = relS scope C.sc
    rw [← Γ.sc]
    rfl
  kind := hk
  xe := rfl
  room := Γ.room
  fn := rfl
theorem passes (Γ : Good g tbl k C X) : PassesOwn (model X.prog X.w) X.A X.env X.xe := by
  rw [Γ.xe]
  exact PassesOwn.never

/-! ### calls of defs -/
theorem t_call {i : Nat} {fs : List (Sm W)} {σ : L2.St} {H : Hp} {Q : VK} (h : tD g (callD tbl k) (eCall i fs) σ H Q) : tCall (spD g tbl k i) [] E0 (tWs g (callD tbl k) (evalsA fs)) σ H Q := by
  obtain ⟨ρ, gh, st, w, st', re, R, e, q⟩ := h
  obtain ⟨ws, st1, e1, f1⟩ := bind_ok e
  refine ⟨ρ, gh, st, ws, st1, re, R, e1, fun vs gh1 H1 S1 R1 r1 => ?_⟩
  show spD g tbl k i (vs ++ []) H1 Q E0
  rw [List.append_nil]
  exact ⟨gh1, st1, ws, w, st', R1, r1, f1, fun v gh2 H2 S2 R2 r2 => q v gh2 H2 (S1.trans R R1 S2) R2 r2⟩
theorem call_none {i : Nat} {ws : List W} {st st' : Store} {w : W} (h : tbl[i]? = none) : callD tbl k i ws st = .ok w st' → False := by
  intro e
  cases k with
  | zero => cases e
  | succ k =>
    simp only [callD, h] at e
    cases e
theorem pe_callFn (Γ : Good g tbl k C X) {x : Str} {i : Nat} {es : List Expr} {fs : List (Sm W)} {p pos : Pos} (h : glob C x = some (.fn i)) (ha : PA X es (tWs g (callD tbl k) (evalsA fs))) (hs : es.any isStar = false) (hl : fs.length = es.length) :
    PE X (.Call (.Name x p) es [] pos) (tD g (callD tbl k) (eCall i fs)) := by
  obtain ⟨h1, h2, h3⟩ := glob_ok Γ h
  cases ht : tbl[i]? with
  | none =>
    refine pe_falseD fun σ H Q t => ?_
    obtain ⟨ρ, gh, st, w, st', re, R, e, q⟩ := t
    obtain ⟨ws, st1, e1, f1⟩ := bind_ok e
    exact call_none ht f1
  | some fd =>
    obtain ⟨d, ps, F, D⟩ := Γ.defs i fd ht
    have F' : FnOk X.prog X.w X.K X.mg X.base CX0 k (g.at_ i) d ps (spD g tbl k i) := by
      rw [Γ.O.P, Γ.O.w, Γ.O.K, Γ.mg, Γ.base]
      exact F
    have hm : X.mg x = some (.ref (g.at_ i)) := by rw [Γ.mg]; exact Γ.gl.fn x i h2
    have hk : PySem.W.keepIn X.K (.ref (g.at_ i)) = true := by rw [Γ.O.K]; exact D.keep
    have hb : Binds X.K d ps [] := by rw [Γ.O.K]; exact D.binds
    cases es with
    | nil =>
      refine PE.to (pe_call0 F' Γ.room h1 hm hk hb .nil pass0 h3) fun σ H Q t => ?_
      have e0 : fs = [] := List.eq_nil_of_length_eq_zero hl
      subst e0
      obtain ⟨ρ, gh, st, ws, st1, re, R, e1, q⟩ := t_call t
      obtain ⟨rfl, rfl⟩ := pure_ok e1
      exact q [] gh H (.refl _ _ _) R trivial
    | cons e es =>
      have hs' := hs
      rw [List.any_cons, Bool.or_eq_false_iff] at hs'
      exact PE.to (pe_call F' Γ.room h1 hm hk hb .nil pass0 ha h3 (star_cons hs'.1) (star_plain hs'.2)) fun σ H Q t => t_call t
def tCallX (P : Program) (w : World) (K : PySem.W.Frag) (mg : Str → Option Value) (base : Heap) (k i : Nat) (t : TA) : TE := fun σ H Q => ∃ f sp, σ[i]? = some (some (.ref f)) ∧ Held P w K mg base k f sp ∧ t σ H fun vs H1 => sp vs H1 Q (fun _ _ _ => False)
theorem pe_callX {i : Nat} {x : Str} {e : Expr} {es : List Expr} {t : TA} {p pos : Pos} (hr : Room k X.A) (hN : X.N[i]? = some x) (hv : Vis X.env.scope x) (ha : PA X (e :: es) t)
    (hdb : (x == ("__debug__" : Str)) = false) (hcd : (x == ("__classdict__" : Str)) = false) (hs : (e :: es).any isStar = false) : PE X (.Call (.Name x p) (e :: es) [] pos) (tCallX X.prog X.w X.K X.mg X.base k i t) := by
  have hs' := hs
  rw [List.any_cons, Bool.or_eq_false_iff] at hs'
  refine ⟨fun pins s σ H Q I h => ?_⟩
  obtain ⟨f, sp, h1, hS, ht⟩ := h
  obtain ⟨fd, ps, F, hk, hb⟩ := hS.ex
  refine (pe_callL (i := i) (f := f) (sp := sp) (dvs := []) (E := fun _ _ _ => False) F hr hN hv hk hb .nil (fun _ _ _ _ _ _ _ z => z.elim) ha hdb hcd (star_cons hs'.1) (star_plain hs'.2)).run pins s σ H Q I ⟨h1, ?_⟩
  have e0 : (fun (vs : List V) (H1 : Hp) => sp (vs ++ []) H1 Q (fun _ _ _ => False)) = fun vs H1 => sp vs H1 Q (fun _ _ _ => False) := by
    funext vs H1
    rw [List.append_nil]
  show t σ H (fun vs H1 => sp (vs ++ []) H1 Q (fun _ _ _ => False))
  rw [e0]
  exact ht
theorem pe_callV (Γ : Good g tbl k C X) {x : Str} {j : Nat} {es : List Expr} {fs : List (Sm W)} {p pos : Pos} (h : vis C x = some j) (ha : PA X es (tWs g (callD tbl k) (evalsA fs))) (hs : es.any isStar = false) (hne : es ≠ []) :
    PE X (.Call (.Name x p) es [] pos) (tD g (callD tbl k) (eCallV j fs)) := by
  obtain ⟨h1, h2, h3, h4⟩ := vis_ok Γ h
  cases es with
  | nil => exact absurd rfl hne
  | cons e es =>
    refine PE.to (pe_callX Γ.room h1 h2 ha h3 h4 hs) fun σ H Q t => ?_
    obtain ⟨ρ, gh, st, w, st', re, R, e, q⟩ := t
    obtain ⟨f, st1, e1, f1⟩ := bind_ok e
    cases f with
    | fn i =>
      obtain ⟨ws, st2, e2, f2⟩ := bind_ok f1
      cases hv : ρ[j]? with
      | none => simp only [eVar, hv] at e1; cases e1
      | some o =>
        cases o with
        | none => simp only [eVar, hv] at e1; cases e1
        | some w' =>
          simp only [eVar, hv] at e1
          obtain ⟨rfl, rfl⟩ := pure_ok e1
          obtain ⟨v, h5, h6⟩ := re.val j _ hv
          cases (show v = .ref (g.at_ i) from h6)
          cases ht : tbl[i]? with
          | none => exact (call_none ht f2).elim
          | some fd =>
            obtain ⟨d, ps, F, D⟩ := Γ.defs i fd ht
            refine ⟨g.at_ i, spD g tbl k i, h5, ⟨d, ps, ?_, ?_, ?_⟩, ρ, gh, _, ws, st2, re, R, e2, fun vs gh1 H1 S1 R1 r1 => ?_⟩
            · rw [Γ.O.P, Γ.O.w, Γ.O.K, Γ.mg, Γ.base]
              exact F
            · rw [Γ.O.K]; exact D.keep
            · rw [Γ.O.K]; exact D.binds
            · exact ⟨gh1, st2, ws, w, st', R1, r1, f2, fun v gh2 H2 S2 R2 r2 => q v gh2 H2 (S1.trans R R1 S2) R2 r2⟩
    | d x => cases f1
    | bx n => cases f1

/-! ### names -/
theorem pe_nameD (Γ : Good g tbl k C X) {cl : Calls} {x : Str} {i : Nat} {pos : Pos} (h : vis C x = some i) : PE X (.Name x pos) (tD g cl (eVar i)) := by
  obtain ⟨h1, h2, h3, h4⟩ := vis_ok Γ h
  exact PE.to (pe_var h1 h2 h3 h4) fun σ H Q t => t_var t
theorem pe_fnD (Γ : Good g tbl k C X) {cl : Calls} {x : Str} {i : Nat} {pos : Pos} (h : glob C x = some (.fn i)) : PE X (.Name x pos) (tD g cl (eFn i)) := by
  obtain ⟨h1, h2, h3⟩ := glob_ok Γ h
  refine PE.to (pe_glob (v := .ref (g.at_ i)) h1 (by rw [Γ.mg]; exact Γ.gl.fn x i h2) rfl h3) fun σ H Q t => ?_
  obtain ⟨ρ, gh, st, w, st', re, R, e, q⟩ := t
  obtain ⟨rfl, rfl⟩ := pure_ok e
  exact q (.ref (g.at_ i)) gh H (.refl _ _ _) R rfl
theorem pe_valD (Γ : Good g tbl k C X) {cl : Calls} {x : Str} {d : PyData} {pos : Pos} (h : glob C x = some (.val d)) : PE X (.Name x pos) (tD g cl (eD d)) := by
  obtain ⟨h1, h2, h3⟩ := glob_ok Γ h
  obtain ⟨v, u, h4, h5, h6, _⟩ := Γ.gl.val x d h2
  exact PE.to (pe_glob (v := v) h1 (by rw [Γ.mg]; exact h4) h5 h3) fun σ H Q t => t_const h6 t

/-! ### targets -/
theorem tgt_ok (Γ : Good g tbl k C X) : ∀ n : Nat, (∀ e t, tgtOf C n e = some t → PG X e (tG g t) ∧ isStar e = false) ∧ (∀ es ts, tgtsOf C n es = some ts → PGs X es (tGs g ts) ∧ es.any isStar = false ∧ ts.length = es.length)
  | 0 => ⟨(fun e t h => by cases h), (fun e t h => by cases h)⟩
  | n + 1 => by
    obtain ⟨ih1, ih2⟩ := tgt_ok Γ n
    refine ⟨fun e t h => ?_, fun es ts h => ?_⟩
    · cases e with
      | Tuple es q p =>
        have h : (tgtsOf C n es).map .tup = some t := h
        obtain ⟨ts, h1, rfl⟩ := Option.map_eq_some_iff.mp h
        obtain ⟨a, b, c⟩ := ih2 es ts h1
        exact ⟨pg_tupD Γ.O b c a, rfl⟩
      | Name x p =>
        have h : (stor C x).map .name = some t := h
        obtain ⟨i, h1, rfl⟩ := Option.map_eq_some_iff.mp h
        obtain ⟨a, b, c⟩ := stor_ok Γ h1
        exact ⟨pg_nameD (by rw [Γ.N]; exact Γ.nd) a b c, rfl⟩
      | _ => cases h
    · cases es with
      | nil =>
        cases h
        exact ⟨pg_nilD, rfl, rfl⟩
      | cons e es =>
        have h : (match tgtOf C n e with | some t => (tgtsOf C n es).map (t :: ·) | none => none) = some ts := h
        split at h
        · rename_i t h1
          obtain ⟨ts', h2, rfl⟩ := Option.map_eq_some_iff.mp h
          obtain ⟨a, b⟩ := ih1 e t h1
          obtain ⟨c, d, f⟩ := ih2 es ts' h2
          exact ⟨pg_consD b a c, by rw [List.any_cons, b, d]; rfl, by rw [List.length_cons, List.length_cons, f]⟩
        · cases h
end Ev

set_option Elab.async false
set_option linter.all false
set_option maxRecDepth 100000
set_option maxHeartbeats 1000000
/-! sorted. -/
namespace Ev
open PySem PySem.Spec PyProof.Rows L2
variable {g : G} {cl : Calls} {X : Cx}
open PySem.W (EachIs)
theorem alikes_of {xs : List PyData} (h : allAlike xs = true) : W.AllAlike xs := fun d hd d' hd' => by
  unfold allAlike at h
  simp only [List.all_eq_true] at h
  exact h d hd d' hd'
theorem srt_at {prog : Program} {w : World} {A : Around} {s : Shared} {vs : List Value} {ds : List PyData} (e : EachIs (fun v d => ∃ as, Reads s.heap v d as) vs ds) (h : srtOk ds = true) (hu : ∀ d, d ∈ ds → A.units + d.depth < cLine) : W.SortsAt prog w A s (W.dataKind s.heap ds) vs := by
  unfold srtOk at h
  simp only [Bool.and_eq_true, Bool.or_eq_true] at h
  obtain ⟨⟨⟨h1, h2⟩, h3⟩, h4⟩ := h
  have hn : ∀ d ∈ ds, d ≠ .none := fun d hd z => by
    have := List.all_eq_true.mp h3 d hd
    rw [z] at this
    cases this
  rcases h4 with (h4 | h4) | h4
  · refine ⟨fun v hv => ?_, general', ?_, fun h2 => ?_⟩
    · obtain ⟨d, hd, as, r⟩ := e.left v hv
      exact ⟨_, W.dataKind_some (alikes_of h1) hd r⟩
    · intro E x y a b Q ha hb hq
      obtain ⟨d, as, hd, ra, rfl⟩ := W.dataKind_inv ha
      obtain ⟨d', as', hd', rb, rfl⟩ := W.dataKind_inv hb
      exact W.oneLt_alike (f := false) (fun z => nomatch z) ra rb (alikes_of h1 d hd d' hd') (hn d hd) (Nat.lt_of_le_of_lt (Nat.add_le_add_left (Nat.min_le_left _ _) _) (hu d hd)) hq
    · have := e.length
      have := of_decide_eq_true h4
      omega
  · refine W.SortsAt.data e (alikes_of h1) (.inl fun d hd => ?_) hu
    have := List.all_eq_true.mp h4 d hd
    cases d with
    | tuple l => cases l with
      | nil => cases this
      | cons x r => exact ⟨x, r, rfl⟩
    | _ => cases this
  · refine W.SortsAt.data e (alikes_of h1) (.inr fun d hd => ⟨hn d hd, fun l z => ?_⟩) hu
    have := List.all_eq_true.mp h4 d hd
    rw [z] at this
    cases this
/-- items with their data -/
theorem each_vals {K : PySem.W.Frag} {F H : Hp} : ∀ {vs : List V} {ds : List PyData} {its : List Value}, Vals vs its → vs.length = ds.length → EachIs (fun (v : Value) (b : V × PyData) => RelV b.1 v) its (vs.zip ds)
  | _, _, _, .nil, _ => by simpa using EachIs.nil
  | _, [], _, .cons p r, h => by simp at h
  | _, d :: ds, _, .cons p r, h => .cons p (each_vals (K := K) (F := F) (H := H) r (by simpa using h))
theorem each_reads {h : Heap} : ∀ {its : List Value} {ds : List PyData} {as : List Addr}, ReadsAll h its ds as → EachIs (fun v d => ∃ as, Reads h v d as) its ds
  | _, [], _, r => by cases r; exact .nil
  | _, d :: ds, _, r => by
    cases r with
    | cons h1 h2 => exact .cons ⟨_, h1⟩ (each_reads h2)
theorem each_zip {h : Heap} : ∀ {its : List Value} {ds : List PyData} {vs : List V}, EachIs (fun v d => ∃ as, Reads h v d as) its ds → vs.length = ds.length → EachIs (fun v (b : V × PyData) => ∃ as, Reads h v b.2 as) its (vs.zip ds)
  | _, [], vs, r, hl => by
    cases r
    obtain rfl : vs = [] := List.length_eq_zero_iff.mp (by simpa using hl)
    exact .nil
  | _, d :: ds, [], r, hl => by simp at hl
  | _, d :: ds, v :: vs, r, hl => by
    cases r with
    | cons h1 h2 => exact .cons h1 (each_zip h2 (by simpa using hl))
theorem zip_snd {vs : List V} {ds : List PyData} (h : vs.length = ds.length) : (vs.zip ds).map (·.2) = ds := List.map_snd_zip (by omega)
/-- the sorted values -/
noncomputable def sortV (vs : List V) (ds : List PyData) : List V := ((vs.zip ds).mergeSort (W.dataLe false (·.2))).map (·.1)
theorem dps_zip {K : PySem.W.Frag} {F : Hp} : ∀ {vs : List V} {ds : List PyData}, DpAll K F vs ds → ∀ p ∈ vs.zip ds, Dp K F p.1 p.2
  | _, _, .nil, p, h => by simp at h
  | v :: vs, d :: ds, .cons a b, p, h => by
    rw [List.zip_cons_cons] at h
    rcases List.mem_cons.mp h with e | e
    · rw [e]; exact a
    · exact dps_zip b p e
theorem dps_unzip {K : PySem.W.Frag} {F : Hp} : ∀ {l : List (V × PyData)}, (∀ p ∈ l, Dp K F p.1 p.2) → DpAll K F (l.map (·.1)) (l.map (·.2))
  | [], _ => .nil
  | p :: l, h => .cons (h p List.mem_cons_self) (dps_unzip fun q hq => h q (List.mem_cons_of_mem _ hq))
theorem sortV_dps {K : PySem.W.Frag} {F : Hp} {vs : List V} {ds : List PyData} (h : DpAll K F vs ds) : DpAll K F (sortV vs ds) (sortL ds) := by
  have e : ((vs.zip ds).mergeSort (W.dataLe false (·.2))).map (·.2) = sortL ds := by
    unfold sortL
    conv => rhs; rw [← zip_snd (dps_len h)]
    exact W.sort_maps (s := W.dataLe false id) (fun p : V × PyData => p.2) fun _ _ _ _ => rfl
  rw [← e]
  exact dps_unzip fun p hp => dps_zip h p (List.mem_mergeSort.mp hp)
theorem sortV_len {vs : List V} {ds : List PyData} (h : vs.length = ds.length) : (sortV vs ds).length = vs.length := by
  unfold sortV
  rw [List.length_map, List.length_mergeSort, List.length_zip]
  omega
theorem each_rel : ∀ {out : List Value} {l : List (V × PyData)}, EachIs (fun (v : Value) (b : V × PyData) => RelV b.1 v) out l → Vals (l.map (·.1)) out
  | _, _, .nil => .nil
  | _, _, .cons h t => .cons h (each_rel t)
def rSort (g : G) : List V → Hp → VK → Prop := fun xs H Q => ∃ p vs ds, xs = [.ref p] ∧ SqL g.K H p vs ∧ DpAll g.K H vs ds ∧ srtOk ds = true ∧ ∀ l, H l = none → Q (.ref l) (upd H l (.lst (sortV vs ds)))
theorem room62 {A : Around} {n : Nat} (h : A.units + 64 < cLine) (hn : n ≤ 60) : A.units + 2 + n < cLine := by omega
theorem depth_mem' : ∀ {xs : List PyData} {x : PyData}, x ∈ xs → x.depth ≤ PyData.depthAll xs
  | y :: ys, x, h => by
    rw [PyData.depthAll]
    rcases List.mem_cons.mp h with e | e
    · rw [e]; exact Nat.le_max_left _ _
    · exact Nat.le_trans (depth_mem' e) (Nat.le_max_right _ _)
theorem srt_depth {ds : List PyData} (h : srtOk ds = true) {d : PyData} (hd : d ∈ ds) : d.depth ≤ 60 := by
  unfold srtOk at h
  simp only [Bool.and_eq_true] at h
  have := shallow_iff.mp h.1.1.2
  rw [depth_list] at this
  have := depth_mem' hd
  omega
theorem cb_sortX (O : Ops g X) : CallR X (.builtin "sorted") (rSort g) := by
  intro pins s σ H xs us Q I r h
  obtain ⟨p, vs, ds, rfl, hq, hd, hs, q⟩ := h
  obtain ⟨u, rfl, rx⟩ := vals1 r
  cases rx
  obtain ⟨its, rv, pl, hz⟩ := I.list (O.K ▸ hq)
  have hlen : vs.length = ds.length := dps_len hd
  obtain ⟨as, ra⟩ := Dp.readsAll I ds vs its (O.K ▸ hd) rv
  have er := each_reads ra
  have hb : ∀ d, d ∈ ds → X.A.in1.in1.units + d.depth < cLine := fun d hd => room62 O.hu (srt_depth hs hd)
  have ek : EachIs (fun v d => ∃ as, Reads (W.sortingHeap (W.copyHeap s.heap its) (s.heap.objs.size + 1) its) v d as) its ds := er.mono fun _ _ ⟨as, r⟩ => ⟨as, PyProof.Rows.Reads.keeps (fun _ _ => W.sorting_copy_old) r⟩
  have S := srt_at (prog := X.prog) (w := X.w) (A := X.A.in1.in1) (s := { s with heap := W.sortingHeap (W.copyHeap s.heap its) (s.heap.objs.size + 1) its }) ek hs hb
  have hal : W.AllAlike ((vs.zip ds).map (·.2)) := by
    rw [zip_snd hlen]
    unfold srtOk at hs
    simp only [Bool.and_eq_true] at hs
    exact alikes_of hs.1.1.1
  have ev := each_vals (K := g.K) (F := H) (H := H) rv hlen
  have out := W.sortVals_data (h' := W.sortingHeap (W.copyHeap s.heap its) (s.heap.objs.size + 1) its) (R := fun (v : Value) (b : V × PyData) => RelV b.1 v) (enc := (·.2)) false ev (each_zip ek hlen) hal
  rw [zip_snd hlen] at out
  refine W.sorted_vals pl.isList S (by rw [← rv.length]; exact hz) ?_
  obtain ⟨c, hc⟩ := sortedAll_at s.heap its (W.sortVals (W.dataKind (W.sortingHeap (W.copyHeap s.heap its) (s.heap.objs.size + 1) its) ds) false its its).toArray
  refine ⟨.ref (s.heap.objs.size + 1), upd H (s.heap.objs.size + 1) (.lst (sortV vs ds)), I.laid (t' := s.toks) (fun _ _ => sortedAll_old) (Nat.le_succ _) ⟨?_, _, c, each_rel out, hc⟩, rfl, q _ (I.hok.fresh (Nat.le_succ _))⟩
  rw [sortV_len hlen]
  exact hz
end Ev

set_option Elab.async false
set_option linter.all false
set_option maxRecDepth 100000
set_option maxHeartbeats 1000000
/-! Items gathered: of lists, tuples, dicts, items of dicts; sorted. -/
namespace Ev
open PySem PySem.Spec PyProof.Rows L2
open PySem.W (EachIs)
variable {g : G} {cl : Calls} {X : Cx}
/-- a value's items can be gathered: r tells them -/
def ColR (X : Cx) (r : V → Hp → (List V → Hp → Prop) → Prop) : Prop := ∀ (pins : List (Addr × Obj)) (s : Shared) (σ : L2.St) (H : Hp) (x : V) (u : Value) (Q : List V → Hp → Prop), Inv X pins σ H s → RelV x u → r x H Q →
  ∀ (A : Around) (E : Value → Shared → Prop) (R : List Value → Shared → Prop), A.handled = none →
    (∀ its s1 vs H1, Inv X pins σ H1 s1 → Vals vs its → its.length ≤ sizeLine → Q vs H1 → R its s1) → wpAny (model X.prog X.w) A (collect u) R E s
theorem ColR.or {r r' : V → Hp → (List V → Hp → Prop) → Prop} (h : ColR X r) (h' : ColR X r') : ColR X fun x H Q => r x H Q ∨ r' x H Q := by
  intro pins s σ H x u Q I rx q
  rcases q with q | q
  · exact h pins s σ H x u Q I rx q
  · exact h' pins s σ H x u Q I rx q
/-- of a list, a tuple -/
def rColS (g : G) : V → Hp → (List V → Hp → Prop) → Prop := fun x H Q => ∃ p vs, x = .ref p ∧ (SqL g.K H p vs ∨ SqT g.K H p vs) ∧ Q vs H
theorem col_seq (O : Ops g X) : ColR X (rColS g) := by
  intro pins s σ H x u Q I rx h A E R hh hR
  obtain ⟨p, vs, rfl, hq, q⟩ := h
  cases rx
  rcases hq with hq | hq
  · obtain ⟨its, rv, pl, hz⟩ := I.list (O.K ▸ hq)
    obtain ⟨o, ho, hc, n, hd⟩ := pl.isList
    refine wpAny_collect_seq p (.inl rfl) ho hc hd (fun h' hk => ?_) (by rw [List.size_toArray, ← rv.length]; exact hz)
    have e : its.toArray.toList = its := by simp
    rw [e]
    exact hR its _ vs H (I.kept (t' := s.toks) hk) rv (by rw [← rv.length]; exact hz) q
  · obtain ⟨its, rv, pl, hz⟩ := I.tuple (O.K ▸ hq)
    obtain ⟨o, ho, hc, n, hd⟩ := pl
    refine wpAny_collect_seq p (.inr rfl) ho hc hd (fun h' hk => ?_) (by rw [List.size_toArray, ← rv.length]; exact hz)
    have e : its.toArray.toList = its := by simp
    rw [e]
    exact hR its _ vs H (I.kept (t' := s.toks) hk) rv (by rw [← rv.length]; exact hz) q
/-! ### a dict's entries -/
theorem key_dp {K : PySem.W.Frag} {F : Hp} : ∀ q : Key, Dp K F (kV q) (keyDat q)
  | .inl i => .int i
  | .inr x => .str x
theorem dict_sorts' {F : Hp} {p : Addr} {o : HO} {kvs : List (PyData × PyData)} (d : DictAt g F p o kvs) : (∀ kv ∈ kvs, isTup kv.1 = true) ∨ (∀ kv ∈ kvs, isTup kv.1 = false) := dict_sorts (gh := ⟨F, []⟩) d
theorem vals_of : ∀ {vs : List V} {us : List Value}, vs.length = us.length → (∀ (i : Nat) (v : V) (u : Value), vs[i]? = some v → us[i]? = some u → RelV v u) → Vals vs us
  | [], [], _, _ => .nil
  | [], _ :: _, h, _ => by simp at h
  | _ :: _, [], h, _ => by simp at h
  | v :: vs, u :: us, h, hr => .cons (hr 0 v u rfl rfl) (vals_of (by simpa using h) fun i x y hx hy => hr (i + 1) x y (by simpa using hx) (by simpa using hy))
theorem dps_of {K : PySem.W.Frag} {F : Hp} {α : Type} (f : α → V) (d : α → PyData) : ∀ {l : List α}, (∀ x ∈ l, Dp K F (f x) (d x)) → DpAll K F (l.map f) (l.map d)
  | [], _ => .nil
  | x :: l, h => .cons (h x List.mem_cons_self) (dps_of f d fun y hy => h y (List.mem_cons_of_mem _ hy))
theorem dps_pairs {K : PySem.W.Frag} {F : Hp} {α β : Type} {R : α → β → Prop} (f : β → V) (d : α → PyData) (h : ∀ a b, R a b → Dp K F (f b) (d a)) : ∀ {l : List α} {m : List β}, Paired R l m → DpAll K F (m.map f) (l.map d)
  | _, _, .nil => .nil
  | _, _, .cons p t => .cons (h _ _ p) (dps_pairs f d h t)
theorem rel_fun {v : V} {u : Value} : ∀ {w : V}, RelV v u → True := fun _ => trivial
/-- what stands in a dict -/
structure Ents (g : G) (F : Hp) (s : Shared) (p : Addr) (kvs : List (PyData × PyData)) (es : Array DictEntry) (ep : Nat) (ks ws : List V) : Prop where
  raw : s.heap.DictRaw p es ep
  nm : (p == sysModules) = false
  sz : es.size = kvs.length
  fit : kvs.length ≤ sizeLine
  keys : Vals ks (es.toList.map (·.key))
  vals : Vals ws (es.toList.map (·.val))
  kd : DpAll g.K F ks (kvs.map (·.1))
  vd : DpAll g.K F ws (kvs.map (·.2))
theorem kv_gets {ks : List (Key × V)} {vs : List (Key × Value)} (h : KV ks vs) {i : Nat} {p : Key × V} (hp : ks[i]? = some p) : ∃ u, vs[i]? = some (p.1, u) ∧ RelV p.2 u := by
  obtain ⟨⟨k, u⟩, h1, h2, h3⟩ := L2.paired_get h hp
  simp only at h2 h3
  subst h2
  exact ⟨u, h1, h3⟩
theorem paired_pick {α β : Type} {R : α → β → V → Prop} : ∀ {l : List α} {m : List β}, Paired (fun a b => ∃ v, R a b v) l m → ∃ ws : List V, ws.length = m.length ∧ Paired (fun a (b : β × V) => R a b.1 b.2) l (m.zip ws)
  | _, _, .nil => ⟨[], rfl, .nil⟩
  | _, _, .cons ⟨v, h⟩ t => by
    obtain ⟨ws, h1, h2⟩ := paired_pick t
    exact ⟨v :: ws, by simp [h1], .cons h h2⟩
theorem get_map {α β : Type} {f : α → β} {l : List α} {i : Nat} {y : β} (h : (l.map f)[i]? = some y) : ∃ x, l[i]? = some x ∧ y = f x := by
  rw [List.getElem?_map] at h
  obtain ⟨x, h1, h2⟩ := Option.map_eq_some_iff.mp h
  exact ⟨x, h1, h2.symm⟩
theorem es_get {es : Array DictEntry} {β : Type} {f : DictEntry → β} {i : Nat} {u : β} (h : (es.toList.map f)[i]? = some u) : ∃ hi : i < es.size, u = f es[i] := by
  obtain ⟨x, h1, rfl⟩ := get_map h
  rw [Array.getElem?_toList] at h1
  obtain ⟨hi, e⟩ := Array.getElem?_eq_some_iff.mp h1
  exact ⟨hi, by rw [e]⟩
theorem ents_nest {pins : List (Addr × Obj)} {σ : L2.St} {H F : Hp} {s : Shared} {p : Addr} {o : HO} {kvs : List (PyData × PyData)} (O : Ops g X) (I : Inv X pins σ H s) (sF : Same F H) (ho : H p = some o) (d : DictAt g F p o kvs)
    (ht : ∀ kv ∈ kvs, isTup kv.1 = true) : ∃ es ep ks ws, Ents g F s p kvs es ep ks ws := by
  obtain ⟨xs, h1, h2, h3, h4, _⟩ := view_nest O I sF ho d ht
  obtain ⟨es, ep, r1, r2, r3⟩ := h1.raw
  have hl : kvs.length = xs.length := Paired.length h2
  have h2' : Paired (fun (p : PyData × PyData) (q : NestedKey × Addr × Value) => ∃ v, RelV v q.2.2 ∧ Dp g.K F v p.2) kvs xs := Paired.mapP h2 fun _ _ h => h.2.2.2.2
  obtain ⟨ws, w1, w2⟩ := paired_pick h2'
  refine ⟨es, ep, xs.map fun q => .ref q.2.1, ws, r1, h3, by rw [r2, hl], h4, vals_of (by simp [r2]) fun i v u hv hu => ?_, vals_of (by simp [w1, r2]) fun i v u hv hu => ?_, ?_, ?_⟩
  · obtain ⟨q, hq, rfl⟩ := get_map hv
    obtain ⟨hi, rfl⟩ := es_get hu
    obtain ⟨y, y1, y2, _⟩ := r3 i hi
    rw [hq] at y1
    cases y1
    exact y2.symm ▸ rfl
  · obtain ⟨hi, rfl⟩ := es_get hu
    obtain ⟨y, y1, _, y2, _⟩ := r3 i hi
    rw [y2]
    have hx : i < kvs.length := by rw [hl, ← r2]; exact hi
    obtain ⟨⟨q, z⟩, q1, q2, _⟩ := L2.paired_get w2 (List.getElem?_eq_getElem hx)
    rw [List.getElem?_zip_eq_some] at q1
    rw [y1] at q1
    rw [hv] at q1
    obtain ⟨e1, e2⟩ := q1
    cases e1
    cases e2
    exact q2
  · exact dps_pairs (fun q : NestedKey × Addr × Value => .ref q.2.1) (fun kv : PyData × PyData => kv.1) (fun a b h => h.2.2.2.1) h2
  · have := dps_pairs (fun b : (NestedKey × Addr × Value) × V => b.2) (fun kv : PyData × PyData => kv.2) (fun a b h => h.2) w2
    rwa [List.map_snd_zip (by omega)] at this
theorem ents_leaf {pins : List (Addr × Obj)} {σ : L2.St} {H F : Hp} {s : Shared} {p : Addr} {o : HO} {kvs : List (PyData × PyData)} (I : Inv X pins σ H s) (ho : H p = some o) (d : DictAt g F p o kvs)
    (ht : ∀ kv ∈ kvs, isTup kv.1 = false) : ∃ es ep ks ws, Ents g F s p kvs es ep ks ws := by
  obtain ⟨xs, vs, h1, h2, h3, h4, h5, _⟩ := view_leaf I ho d ht
  obtain ⟨es, ep, r1, r2, r3⟩ := h3.raw
  have hl : kvs.length = xs.length := Paired.length h1
  have hl2 : xs.length = vs.length := Paired.length h2
  refine ⟨es, ep, xs.map fun q => kV q.1, xs.map (·.2), r1, h4, by rw [r2, hl, hl2], h5, vals_of (by simp [r2, hl2]) fun i v u hv hu => ?_, vals_of (by simp [r2, hl2]) fun i v u hv hu => ?_, ?_, ?_⟩
  · obtain ⟨q, hq, rfl⟩ := get_map hv
    obtain ⟨hi, rfl⟩ := es_get hu
    obtain ⟨u, u1, u2⟩ := kv_gets h2 hq
    obtain ⟨z1, z2⟩ := r3 i hi _ _ u1
    exact relV_key (show keyIs q.1 es[i].key = true from z1)
  · obtain ⟨q, hq, rfl⟩ := get_map hv
    obtain ⟨hi, rfl⟩ := es_get hu
    obtain ⟨u, u1, u2⟩ := kv_gets h2 hq
    obtain ⟨z1, z2⟩ := r3 i hi _ _ u1
    rw [z2]
    exact u2
  · exact dps_pairs (fun q : Key × V => kV q.1) (fun kv : PyData × PyData => kv.1) (fun a b h => by rw [h.1]; exact key_dp _) h1
  · exact dps_pairs (fun q : Key × V => q.2) (fun kv : PyData × PyData => kv.2) (fun a b h => h.2) h1
theorem ents_of {pins : List (Addr × Obj)} {σ : L2.St} {H F : Hp} {s : Shared} {p : Addr} {kvs : List (PyData × PyData)} (O : Ops g X) (I : Inv X pins σ H s) (sF : Same F H) (d : DAt g F H p kvs) : ∃ es ep ks ws, Ents g F s p kvs es ep ks ws := by
  obtain ⟨o, ho, d⟩ := d
  rcases dict_sorts' d with ht | ht
  · exact ents_nest O I sF ho d ht
  · exact ents_leaf I ho d ht
/-- of a dict: its keys -/
def rColD (g : G) : V → Hp → (List V → Hp → Prop) → Prop := fun x H Q => ∃ p F kvs, x = .ref p ∧ Same F H ∧ DAt g F H p kvs ∧ ∀ ks, DpAll g.K F ks (kvs.map (·.1)) → Q ks H
theorem col_dict (O : Ops g X) : ColR X (rColD g) := by
  intro pins s σ H x u Q I rx h A E R hh hR
  obtain ⟨p, F, kvs, rfl, sF, d, q⟩ := h
  cases rx
  obtain ⟨es, ep, ks, ws, N⟩ := ents_of O I sF d
  refine W.kdu_collect (KdlSrc.rawDict (es := es) (ep := ep) N.nm) hh N.raw (by rw [N.sz]; exact N.fit) fun h' tk acc hk hacc => ?_
  have e : acc.toList = es.toList.map (·.key) := by
    apply List.ext_getElem?
    intro i
    rw [Array.getElem?_toList, List.getElem?_map, Array.getElem?_toList]
    by_cases hi : i < es.size
    · have ha : i < acc.size := by rw [hacc.1]; exact hi
      obtain ⟨_, h2⟩ := hacc.2 i _ (Array.getElem?_eq_getElem ha)
      rw [Array.getElem?_eq_getElem ha, Array.getElem?_eq_getElem hi, h2]
      rfl
    · rw [Array.getElem?_eq_none (by rw [hacc.1]; omega), Array.getElem?_eq_none (by omega)]
      rfl
  rw [e]
  exact hR _ _ ks H (I.kept (t' := tk) hk) N.keys (by rw [List.length_map, Array.length_toList, N.sz]; exact N.fit) (q ks N.kd)
end Ev

set_option Elab.async false
set_option linter.all false
set_option maxRecDepth 100000
set_option maxHeartbeats 1000000
/-! sorted, whatever is gathered. -/
namespace Ev
open PySem PySem.Spec PyProof.Rows L2
open PySem.W (EachIs)
variable {g : G} {cl : Calls} {X : Cx}
def rSortC (g : G) (rc : V → Hp → (List V → Hp → Prop) → Prop) : List V → Hp → VK → Prop := fun xs H Q => ∃ x, xs = [x] ∧ rc x H fun vs H1 => ∃ ds, DpAll g.K H1 vs ds ∧ srtOk ds = true ∧ ∀ l, H1 l = none → Q (.ref l) (upd H1 l (.lst (sortV vs ds)))
theorem cb_sortC (O : Ops g X) {rc : V → Hp → (List V → Hp → Prop) → Prop} (hr : ColR X rc) : CallR X (.builtin "sorted") (rSortC g rc) := by
  intro pins s σ H xs us Q I r h
  obtain ⟨x, rfl, q⟩ := h
  obtain ⟨u, rfl, rx⟩ := vals1 r
  refine Calls.call_function_entry kind_sorted plain_sorted entry_sorted (args_sorted1 _) ?_
  unfold Builtin.«sorted»
  refine wpAny_bind (m := checkCount "sorted" 1 1 _) (wpAny_pure ?_)
  refine wpAny_bind (hr pins s σ H x u _ I rx q X.A.in1 _ _ (I.ok.hd O.calm) fun its s1 vs H1 I1 rv hL h1 => ?_)
  obtain ⟨ds, hd, hs, h1⟩ := h1
  have hlen : vs.length = ds.length := dps_len hd
  obtain ⟨as, ra⟩ := Dp.readsAll I1 ds vs its (O.K ▸ hd) rv
  have er := each_reads ra
  refine wpAny_bind (wpAny_newList ?_ hL)
  have ho : (s1.heap.push (seqObj "list" its.toArray 0)).get? s1.heap.objs.size = some (seqObj "list" its.toArray 0) := Heap.get?_push_size _ rfl
  have hb : ∀ d, d ∈ ds → X.A.in1.in1.units + d.depth < cLine := fun d hd => room62 O.hu (srt_depth hs hd)
  have kp : ∀ b o, s1.heap.get? b = some o → (W.sortingHeap (s1.heap.push (seqObj "list" its.toArray 0)) s1.heap.objs.size its).get? b = some o := fun b o e => W.sortingHeap_old (Nat.ne_of_lt (Heap.lt_size e)) (Heap.get?_push_of_some _ e)
  have ek : EachIs (fun v d => ∃ as, Reads (W.sortingHeap (s1.heap.push (seqObj "list" its.toArray 0)) s1.heap.objs.size its) v d as) its ds := er.mono fun _ _ ⟨as, r⟩ => ⟨as, PyProof.Rows.Reads.keeps kp r⟩
  have S := srt_at (prog := X.prog) (w := X.w) (A := X.A.in1.in1) (s := { s1 with heap := W.sortingHeap (s1.heap.push (seqObj "list" its.toArray 0)) s1.heap.objs.size its }) ek hs hb
  have hal : W.AllAlike ((vs.zip ds).map (·.2)) := by
    rw [zip_snd hlen]
    unfold srtOk at hs
    simp only [Bool.and_eq_true] at hs
    exact alikes_of hs.1.1.1
  have ev := each_vals (K := g.K) (F := H1) (H := H1) rv hlen
  have out := W.sortVals_data (h' := W.sortingHeap (s1.heap.push (seqObj "list" its.toArray 0)) s1.heap.objs.size its) (R := fun (v : Value) (b : V × PyData) => RelV b.1 v) (enc := (·.2)) false ev (each_zip ek hlen) hal
  rw [zip_snd hlen] at out
  have fin : wpAny (model X.prog X.w) X.A.in1 (call (.builtin "list.sort") [.ref s1.heap.objs.size]) (fun _ s' => EP X pins σ Q (.ref s1.heap.objs.size) s') X.xe { s1 with heap := s1.heap.push (seqObj "list" its.toArray 0) } := by
    refine wpAny_call_entry slot_list_sort ⟨_, ho, rfl⟩ entry_list_sort (W.list_sort_vals (κ := W.dataKind (W.sortingHeap (s1.heap.push (seqObj "list" its.toArray 0)) s1.heap.objs.size its) ds) ho S hL ⟨.none, rfl, ?_⟩) (args_list_sort _)
    obtain ⟨c, hc⟩ := sortedHeap_at (vs := its) (out := (W.sortVals (W.dataKind (W.sortingHeap (s1.heap.push (seqObj "list" its.toArray 0)) s1.heap.objs.size its) ds) false its its).toArray) ho
    refine ⟨.ref s1.heap.objs.size, upd H1 s1.heap.objs.size (.lst (sortV vs ds)), I1.laid (t' := s1.toks) (fun b o e => ?_) (Nat.le_refl _) ⟨?_, _, c, each_rel out, hc⟩, rfl, h1 _ (I1.hok.fresh (Nat.le_refl _))⟩
    · have hlt := Heap.lt_size e
      rw [sortedHeap_old (Nat.ne_of_lt hlt) (by rw [size_push']; exact Nat.lt_succ_of_lt hlt)]
      exact Heap.get?_push_of_some _ e
    · rw [sortV_len hlen, rv.length]
      exact hL
  refine wpAny_bind (wpAny_holding (wpAny_mono fin (fun _ s' x => ?_) fun _ _ e => e))
  exact wpAny_pure ⟨_, rfl, x⟩
end Ev

set_option Elab.async false
set_option linter.all false
set_option maxRecDepth 100000
set_option maxHeartbeats 1000000
/-! Many new objects; the items of a dict gathered. -/
namespace Ev
open PySem PySem.Spec PyProof.Rows L2
open PySem.W (EachIs)
open L2.DX (itemsO itemsO_ok)
variable {g : G} {cl : Calls} {X : Cx}
def updL (H : Hp) : List (Addr × HO) → Hp
  | [] => H
  | (a, o) :: l => updL (upd H a o) l
theorem updL_out : ∀ {l : List (Addr × HO)} {H : Hp} {b : Addr}, b ∉ l.map (·.1) → updL H l b = H b
  | [], _, _, _ => rfl
  | (a, o) :: l, H, b, h => by
    rw [List.map_cons, List.mem_cons, not_or] at h
    show updL (upd H a o) l b = _
    rw [updL_out h.2, upd_ne h.1]
theorem updL_in : ∀ {l : List (Addr × HO)} {H : Hp} {b : Addr} {o : HO}, (l.map (·.1)).Nodup → (b, o) ∈ l → updL H l b = some o
  | (a, u) :: l, H, b, o, hn, hm => by
    have hn' := hn
    rw [List.map_cons, List.nodup_cons] at hn'
    rcases List.mem_cons.mp hm with e | e
    · cases e
      show updL (upd H a u) l a = _
      rw [updL_out hn'.1, upd_same]
    · show updL (upd H a u) l b = _
      exact updL_in hn'.2 e
theorem updL_cases {l : List (Addr × HO)} {H : Hp} {b : Addr} {u : HO} (hn : (l.map (·.1)).Nodup) (h : updL H l b = some u) : (b, u) ∈ l ∨ (b ∉ l.map (·.1) ∧ H b = some u) := by
  by_cases hb : b ∈ l.map (·.1)
  · obtain ⟨⟨a, o⟩, h1, h2⟩ := List.mem_map.mp hb
    simp only at h2
    subst h2
    have := updL_in (H := H) hn h1
    rw [h] at this
    cases this
    exact .inl h1
  · exact .inr ⟨hb, (updL_out (H := H) hb).symm.trans h⟩
theorem inv_many {pins : List (Addr × Obj)} {σ : L2.St} {H : Hp} {s : Shared} {h' : Heap} {t' : Nat} {l : List (Addr × HO)} (I : Inv X pins σ H s) (k : ∀ b u, s.heap.get? b = some u → h'.get? b = some u) (hn : (l.map (·.1)).Nodup)
    (hl : ∀ p ∈ l, s.heap.objs.size ≤ p.1 ∧ ObjOk X.prog X.w (updL H l) h' p.1 p.2) : Inv X pins σ (updL H l) { s with heap := h', toks := t' } := by
  have out : ∀ {b : Addr} {u : HO}, H b = some u → b ∉ l.map (·.1) := fun {b u} e hm => by
    obtain ⟨p, h1, h2⟩ := List.mem_map.mp hm
    have := I.hok.fresh (hl p h1).1
    rw [h2, e] at this
    cases this
  have keep : ∀ {b : Addr} {u : HO}, H b = some u → updL H l b = some u := fun {b u} e => by rw [updL_out (out e)]; exact e
  have outh : ∀ {b : Addr} {o : Obj}, s.heap.get? b = some o → b ∉ l.map (·.1) := fun {b o} e hm => by
    obtain ⟨p, h1, h2⟩ := List.mem_map.mp hm
    have h3 := (hl p h1).1
    rw [h2] at h3
    exact absurd (Heap.lt_size e) (Nat.not_lt.mpr h3)
  refine I.un ⟨fun b u q _ _ _ => k b u q, fun b u q _ _ _ => ⟨u.slots, k b u q⟩, fun b u q n _ => by rw [updL_out (outh q)]; exact n, fun b u q _ => ⟨u, k b u q⟩, fun b xs q => keep q, fun b u xs q => keep q, fun b ps q => ⟨#[], by rw [keep q]; simp⟩⟩ fun b u e => ?_
  rcases updL_cases hn e with e | ⟨e, e'⟩
  · exact (hl _ e).2
  · exact (I.hok b u e').stay (fun c v _ q => k c v q) (fun c q => keep q) fun c xs q => keep q
theorem Rep.many {st : Store} : ∀ {l : List (Addr × HO)} {gh : Gh} {H : Hp}, Rep g gh st H → (l.map (·.1)).Nodup → (∀ p ∈ l, H p.1 = none) → Rep g ⟨updL gh.F l, gh.ad⟩ st (updL H l) ∧ Stp gh ⟨updL gh.F l, gh.ad⟩ st st H (updL H l)
  | [], gh, H, R, _, _ => ⟨R, .refl _ _ _⟩
  | (a, o) :: l, gh, H, R, hn, hl => by
    rw [List.map_cons, List.nodup_cons] at hn
    obtain ⟨R1, S1⟩ := R.alloc (hl _ List.mem_cons_self) o
    obtain ⟨R2, S2⟩ := Rep.many (l := l) (gh := ⟨upd gh.F a o, gh.ad⟩) R1 hn.2 fun p hp => by
      have z : p.1 ≠ a := fun z => hn.1 (z ▸ List.mem_map_of_mem (f := (·.1)) hp)
      show upd H a o p.1 = none
      rw [upd_ne z]
      exact hl p (List.mem_cons_of_mem _ hp)
    exact ⟨R2, S1.trans R R1 S2⟩
/-! ### the view of a dict's items -/
def rItm (g : G) : V → List V → Hp → VK → Prop := fun x xs H Q => ∃ p F kvs, x = .ref p ∧ xs = [] ∧ Same F H ∧ DAt g F H p kvs ∧ ∀ v, H v = none → Q (.ref v) (upd H v (itemsO v p))
theorem mt_itm (O : Ops g X) : MtR X "dict.items" (rItm g) := by
  intro pins s σ H x xs v us Q I rx rxs h
  obtain ⟨p, F, kvs, rfl, rfl, sF, d, q⟩ := h
  cases rx
  cases rxs
  obtain ⟨es, ep, ks, ws, N⟩ := ents_of O I sF d
  refine call_meetsIn PySem.F.slot_dict_items N.raw.typeIs PySem.F.entry_dict_items (PySem.F.args_dict_items_1 _) (meets_dict_items_raw p N.nm) ⟨⟨es, ep, N.raw⟩, ?_⟩
  exact ⟨.ref s.heap.objs.size, upd H s.heap.objs.size (itemsO s.heap.objs.size p), I.laid (t' := s.toks) (fun b u e => Heap.get?_push_of_some _ e) (Nat.le_refl _) (itemsO_ok (Heap.get?_push_size _ rfl)), rfl, q _ (I.hok.fresh (Nat.le_refl _))⟩
theorem mf_itm (O : Ops g X) : MF X "dict" "items" "dict.items" (rItm g) := ⟨PySem.F.plainAttrs_dict, PySem.F.slot_dict_items, PySem.F.type_dict_items, mt_itm O⟩
/-- the tuples that stand for the entries -/
def entT (ks ws : List V) : List HO := List.zipWith (fun k w => .tup [k, w]) ks ws
def rColI (g : G) : V → Hp → (List V → Hp → Prop) → Prop := fun x H Q => ∃ v p F kvs, x = .ref v ∧ H v = some (itemsO v p) ∧ Same F H ∧ DAt g F H p kvs ∧
  ∀ (as : List Addr) (ks ws : List V), DpAll g.K F ks (kvs.map (·.1)) → DpAll g.K F ws (kvs.map (·.2)) → as.length = kvs.length → as.Nodup → (∀ a ∈ as, H a = none) → Q (as.map .ref) (updL H (as.zip (entT ks ws)))
theorem col_items (O : Ops g X) : ColR X (rColI g) := by
  intro pins s σ H x u Q I rx h A E R hh hR
  obtain ⟨v, p, F, kvs, rfl, hv, sF, d, q⟩ := h
  cases rx
  have view : s.heap.IsItemsView v p := (show ObjOk X.prog X.w H s.heap v (itemsO v p) from I.hok v _ hv).1
  obtain ⟨es, ep, ks, ws, N⟩ := ents_of O I sF d
  refine W.dil_collect hh view N.raw (by rw [N.sz]; exact N.fit) fun h' tk as hk hl hG => ?_
  have nd : as.Nodup := List.Pairwise.imp (fun h => Nat.ne_of_lt h) hG.rise
  have lk : ks.length = as.length := by rw [dps_len N.kd, List.length_map, hl, N.sz]
  have lw : ws.length = as.length := by rw [dps_len N.vd, List.length_map, hl, N.sz]
  have le : (entT ks ws).length = as.length := by simp [entT, lk, lw]
  have e1 : (as.zip (entT ks ws)).map (·.1) = as := List.map_fst_zip (by omega)
  refine hR _ { s with heap := h', toks := tk } (as.map .ref) _ (inv_many (t' := tk) (l := as.zip (entT ks ws)) I hk (by rw [e1]; exact nd) ?_) (vals_of (by simp) fun i x y hx hy => ?_) (by rw [List.length_map, hl, N.sz]; exact N.fit) (q as ks ws N.kd N.vd (by rw [hl, N.sz]) nd fun a ha => I.hok.fresh (Nat.le_of_lt (hG.above a ha)))
  · rintro ⟨a, o⟩ hm
    have ha : a ∈ as := (List.of_mem_zip hm).1
    refine ⟨Nat.le_of_lt (hG.above a ha), ?_⟩
    obtain ⟨j, hj⟩ := List.mem_iff_getElem?.mp hm
    rw [List.getElem?_zip_eq_some] at hj
    obtain ⟨j1, j2⟩ := hj
    obtain ⟨hje, hg⟩ := hG.pairs j a j1
    unfold entT at j2
    rw [List.getElem?_zipWith_eq_some] at j2
    obtain ⟨k, w, k1, w1, rfl⟩ := j2
    have rk := Vals.get N.keys k1
    have rw' := Vals.get N.vals w1
    obtain ⟨ku, ku1, ku2⟩ := rk
    obtain ⟨wu, wu1, wu2⟩ := rw'
    obtain ⟨_, rfl⟩ := es_get ku1
    obtain ⟨_, rfl⟩ := es_get wu1
    exact ⟨by show 2 ≤ sizeLine; decide, [es[j].key, es[j].val], .cons ku2 (.cons wu2 .nil), _, hg, rfl, 0, rfl⟩
  · obtain ⟨a, a1, rfl⟩ := get_map hx
    obtain ⟨b, b1, rfl⟩ := get_map hy
    rw [a1] at b1
    cases b1
    rfl
end Ev

set_option Elab.async false
set_option linter.all false
set_option maxRecDepth 100000
set_option maxHeartbeats 1000000
/-! dict(pairs). -/
namespace Ev
open PySem PySem.Spec PyProof.Rows L2
open PySem.W (EachIs)
variable {g : G} {cl : Calls} {X : Cx}
/-- one pair: its tuple, key and value -/
structure Pr where
  T : Addr
  x : V
  y : V
  k : PyData
  v : PyData
def PrOk (g : G) (F : Hp) (tp : Bool) (t : Pr) : Prop := SqT g.K F t.T [t.x, t.y] ∧ Dp g.K F t.x t.k ∧ Dp g.K F t.y t.v ∧ keyOk t.k = true ∧ isTup t.k = tp
theorem keyFits_kind {acc : List (PyData × PyData)} {k : PyData} {tp : Bool} (h : keyFits acc k = true) (ha : acc ≠ []) (ht : ∀ kv ∈ acc, isTup kv.1 = tp) : isTup k = tp := by
  unfold keyFits at h
  rw [Bool.and_eq_true] at h
  obtain ⟨kv, acc', rfl⟩ := List.exists_cons_of_ne_nil ha
  have := List.all_eq_true.mp h.2 kv List.mem_cons_self
  rw [ht kv List.mem_cons_self] at this
  exact (eq_of_beq this).symm
theorem putK_kind {acc : List (PyData × PyData)} {k v : PyData} {tp : Bool} (ht : ∀ kv ∈ acc, isTup kv.1 = tp) (hk : isTup k = tp) : (∀ kv ∈ Ev.putK acc k v, isTup kv.1 = tp) ∧ Ev.putK acc k v ≠ [] := by
  unfold Ev.putK
  split
  · rename_i h
    refine ⟨fun kv hkv => ?_, fun e => ?_⟩
    · obtain ⟨kw, hw, rfl⟩ := List.mem_map.mp hkv
      split
      · exact ht kw hw
      · exact ht kw hw
    · rw [List.map_eq_nil_iff] at e
      rw [e] at h
      cases h
  · refine ⟨fun kv hkv => ?_, by simp⟩
    rcases List.mem_append.mp hkv with h | h
    · exact ht kv h
    · rw [List.mem_singleton.mp h]
      exact hk
theorem prs_of {F : Hp} (tp : Bool) : ∀ {vs : List V} {ds : List PyData} {acc kvs : List (PyData × PyData)}, DpAll g.K F vs ds → putAll acc ds = some kvs → acc ≠ [] → (∀ kv ∈ acc, isTup kv.1 = tp) →
    ∃ ts : List Pr, vs = ts.map (fun t => .ref t.T) ∧ kvs = ts.foldl (fun a t => Ev.putK a t.k t.v) acc ∧ ∀ t ∈ ts, PrOk g F tp t
  | _, [], acc, kvs, h, e, ha, ht => by
    cases h
    cases e
    exact ⟨[], rfl, rfl, fun t h => by cases h⟩
  | _, d :: ds, acc, kvs, h, e, ha, ht => by
    cases h with
    | cons hd hr =>
      rename_i v vs
      unfold putAll at e
      split at e
      · rename_i k z
        split at e
        · rename_i hf
          have hk := keyFits_kind hf ha ht
          obtain ⟨p1, p2⟩ := putK_kind (v := z) ht hk
          obtain ⟨ts, e1, e2, e3⟩ := prs_of tp hr e p2 p1
          cases hd with
          | tup hs hx =>
            cases hx with
            | cons q1 q2 =>
              cases q2 with
              | cons q3 q4 =>
                cases q4
                rename_i a x y
                refine ⟨⟨a, x, y, k, z⟩ :: ts, by rw [List.map_cons, ← e1], by rw [List.foldl_cons]; exact e2, fun t ht' => ?_⟩
                rcases List.mem_cons.mp ht' with h | h
                · rw [h]
                  unfold keyFits at hf
                  rw [Bool.and_eq_true] at hf
                  exact ⟨hs, q1, q3, hf.1, hk⟩
                · exact e3 t h
        · cases e
      · cases e
theorem prs_all {F : Hp} {vs : List V} {ds : List PyData} {kvs : List (PyData × PyData)} (h : DpAll g.K F vs ds) (e : putAll [] ds = some kvs) :
    ∃ (tp : Bool) (ts : List Pr), vs = ts.map (fun t => .ref t.T) ∧ kvs = ts.foldl (fun a t => Ev.putK a t.k t.v) [] ∧ ∀ t ∈ ts, PrOk g F tp t := by
  cases ds with
  | nil =>
    cases h
    cases e
    exact ⟨true, [], rfl, rfl, fun t h => by cases h⟩
  | cons d ds =>
    cases h with
    | cons hd hr =>
      unfold putAll at e
      split at e
      · rename_i k z
        split at e
        · rename_i hf
          obtain ⟨p1, p2⟩ := putK_kind (acc := []) (v := z) (tp := isTup k) (fun kv h => by cases h) rfl
          obtain ⟨ts, e1, e2, e3⟩ := prs_of (isTup k) hr e p2 p1
          cases hd with
          | tup hs hx =>
            cases hx with
            | cons q1 q2 =>
              cases q2 with
              | cons q3 q4 =>
                cases q4
                rename_i a x y
                refine ⟨isTup k, ⟨a, x, y, k, z⟩ :: ts, by rw [List.map_cons, ← e1], by rw [List.foldl_cons]; exact e2, fun t ht' => ?_⟩
                rcases List.mem_cons.mp ht' with h | h
                · rw [h]
                  unfold keyFits at hf
                  rw [Bool.and_eq_true] at hf
                  exact ⟨hs, q1, q3, hf.1, rfl⟩
                · exact e3 t h
        · cases e
      · cases e
/-- the pairs as they stand -/
theorem prs_vals {pins : List (Addr × Obj)} {σ : L2.St} {H F : Hp} {s : Shared} {tp : Bool} (O : Ops g X) (I : Inv X pins σ H s) (sF : Same F H) : ∀ {ts : List Pr}, (∀ t ∈ ts, PrOk g F tp t) →
    ∃ ps : List (Value × Value), ps.length = ts.length ∧ ∀ (j : Nat) (t : Pr), ts[j]? = some t → ∃ k v, ps[j]? = some (k, v) ∧ RelV t.x k ∧ RelV t.y v ∧ PairAt s.heap t.T k v
  | [], _ => ⟨[], rfl, fun j t h => by simp at h⟩
  | t :: ts, h => by
    obtain ⟨ps, h1, h2⟩ := prs_vals O I sF fun u hu => h u (List.mem_cons_of_mem _ hu)
    obtain ⟨q1, _⟩ := h t List.mem_cons_self
    obtain ⟨its, rv, pl, _⟩ := I.tuple (O.K ▸ Same.seqT sF q1)
    obtain ⟨k, v, rfl, rk, rw'⟩ := vals2 rv
    refine ⟨(k, v) :: ps, by simp [h1], fun j u hj => ?_⟩
    cases j with
    | zero =>
      cases hj
      exact ⟨k, v, rfl, rk, rw', .inl pl⟩
    | succ j => exact h2 j u (by simpa using hj)
def addrV : V → Addr
  | .ref b => b
  | _ => 0
/-- the pairs with their keys as keys of a dict -/
def nkOf (ts : List Pr) (ps : List (Value × Value)) : List (NestedKey × Addr × Value) := (ts.zip ps).map fun q => (toNK q.1.k, addrV q.1.x, q.2.2)
theorem keyOk_dep {k : PyData} (h : keyOk k = true) : keyed k = true ∧ k.depth ≤ 8 ∧ isNone k = false := by
  unfold keyOk at h
  simp only [Bool.and_eq_true, Bool.not_eq_true', decide_eq_true_eq] at h
  exact ⟨h.1.1, h.1.2, h.2⟩
theorem nest_all {F : Hp} : ∀ {ts : List Pr} {ps : List (Value × Value)} {acc : List (PyData × PyData)} {xs : List (NestedKey × Addr × Value)}, ts.length = ps.length → (∀ t ∈ ts, PrOk g F true t) → (∀ (j : Nat) (t : Pr) (k v : Value), ts[j]? = some t → ps[j]? = some (k, v) → RelV t.y v) →
    Paired (NP g F) acc xs → Paired (NP g F) (ts.foldl (fun a t => Ev.putK a t.k t.v) acc) (storedAllH xs (nkOf ts ps))
  | [], _, acc, xs, _, _, _, h => by simpa [nkOf, storedAllH] using h
  | t :: ts, [], acc, xs, hl, _, _, _ => by simp at hl
  | t :: ts, (k, v) :: ps, acc, xs, hl, ht, hr, h => by
    obtain ⟨q1, q2, q3, q4, q5⟩ := ht t List.mem_cons_self
    obtain ⟨b, hb⟩ := tup_ref q5 q2
    obtain ⟨k1, k2, k3⟩ := keyOk_dep q4
    rw [hb] at q2
    have new := nest_put (g := g) (F := F) (n := toNK t.k) (b := b) (hr 0 t k v rfl rfl) q3 (by rw [data_toNK k1]; exact q5) (by rw [depth_toNK k1]; exact k2) (by rw [data_toNK k1]; exact q2) h
    rw [data_toNK k1] at new
    have := nest_all (ts := ts) (ps := ps) (by simpa using hl) (fun u hu => ht u (List.mem_cons_of_mem _ hu)) (fun j u a c h1 h2 => hr (j + 1) u a c (by simpa using h1) (by simpa using h2)) new
    have e : nkOf (t :: ts) ((k, v) :: ps) = (toNK t.k, b, v) :: nkOf ts ps := by simp [nkOf, hb, addrV]
    rw [e]
    exact this
def keyOfD : PyData → Key
  | .int i => .inl i
  | .str x => .inr x
  | _ => .inl 0
theorem leaf_of {F : Hp} {t : Pr} (h : PrOk g F false t) : t.k = keyDat (keyOfD t.k) ∧ t.x = kV (keyOfD t.k) := by
  obtain ⟨_, q2, _, q4, q5⟩ := h
  obtain ⟨k1, k2, k3⟩ := keyOk_dep q4
  obtain ⟨q, hq⟩ := leaf_key k1 k3 q5
  rw [hq] at q2
  have hx := leaf_v q2
  rw [hx, hq]
  cases q <;> exact ⟨rfl, rfl⟩
def lkOf (ts : List Pr) (ps : List (Value × Value)) : List (Key × Value) := (ts.zip ps).map fun q => (keyOfD q.1.k, q.2.2)
def lvOf (ts : List Pr) (acc : List (Key × V)) : List (Key × V) := ts.foldl (fun a t => L2.putK a (keyOfD t.k) t.y) acc
theorem leaf_all {F : Hp} : ∀ {ts : List Pr} {ps : List (Value × Value)} {acc : List (PyData × PyData)} {xs : List (Key × V)} {us : List (Key × Value)}, ts.length = ps.length → (∀ t ∈ ts, PrOk g F false t) → (∀ (j : Nat) (t : Pr) (k v : Value), ts[j]? = some t → ps[j]? = some (k, v) → RelV t.y v) →
    Paired (LP g F) acc xs → KV xs us → Paired (LP g F) (ts.foldl (fun a t => Ev.putK a t.k t.v) acc) (lvOf ts xs) ∧ KV (lvOf ts xs) (merged us (lkOf ts ps))
  | [], _, acc, xs, us, _, _, _, h, h2 => by simpa [lvOf, lkOf, merged] using ⟨h, h2⟩
  | t :: ts, [], acc, xs, us, hl, _, _, _, _ => by simp at hl
  | t :: ts, (k, v) :: ps, acc, xs, us, hl, ht, hr, h, h2 => by
    have q := ht t List.mem_cons_self
    obtain ⟨e1, e2⟩ := leaf_of q
    have new := leaf_put (g := g) (F := F) (keyOfD t.k) q.2.2.1 h
    rw [← e1] at new
    exact leaf_all (ts := ts) (ps := ps) (by simpa using hl) (fun u hu => ht u (List.mem_cons_of_mem _ hu)) (fun j u a c h1 h2 => hr (j + 1) u a c (by simpa using h1) (by simpa using h2)) new (h2.put (keyOfD t.k) (hr 0 t k v rfl rfl))
theorem room8 {A : Around} (h : A.units + 64 < cLine) : A.in1.in1.units + 8 < cLine := by
  have : A.in1.in1.units = A.units + 1 + 1 := rfl
  omega
def rDictL (g : G) : List V → Hp → VK → Prop := fun xs H Q => ∃ p F vs ds kvs, xs = [.ref p] ∧ SqL g.K H p vs ∧ Same F H ∧ DpAll g.K F vs ds ∧ putAll [] ds = some kvs ∧ ∀ l o, H l = none → DictAt g F l o kvs → Q (.ref l) (upd H l o)
theorem foldl_len : ∀ (ts : List Pr) (acc : List (PyData × PyData)), (ts.foldl (fun a t => Ev.putK a t.k t.v) acc).length ≤ acc.length + ts.length
  | [], acc => Nat.le_refl _
  | t :: ts, acc => by
    have h1 := foldl_len ts (Ev.putK acc t.k t.v)
    have h2 := putK_len acc t.k t.v
    rw [List.foldl_cons, List.length_cons]
    omega
theorem cb_dictL (O : Ops g X) : CallR X (.type "dict") (rDictL g) := by
  intro pins s σ H xs us Q I r h
  obtain ⟨p, F, vs, ds, kvs, rfl, hq, sF, hd, he, q⟩ := h
  obtain ⟨u, rfl, rx⟩ := vals1 r
  cases rx
  obtain ⟨its, rv, pl, hz⟩ := I.list (O.K ▸ hq)
  obtain ⟨tp, ts, e1, e2, e3⟩ := prs_all hd he
  obtain ⟨ps, p1, p2⟩ := prs_vals O I sF e3
  have hlen : its.length = ts.length := by rw [← rv.length, e1, List.length_map]
  have hn : ps.length ≤ sizeLine := by rw [p1, ← hlen, ← rv.length]; exact hz
  have hm : (s.heap.objs.size == sysModules) = false := beq_eq_false_iff_ne.mpr (Nat.ne_of_gt I.big)
  obtain ⟨o, n, ho, hc, hdn, hdt⟩ := pl
  have items : PairItems s.heap its.toArray (fun j => ((ts[j]?).map (·.T)).getD 0) ps := by
    refine ⟨by rw [List.size_toArray, hlen, p1], fun j k v hj => ?_⟩
    have hjl : j < ts.length := by
      rw [← p1]
      exact (List.getElem?_eq_some_iff.mp hj).1
    have ht : ts[j]? = some ts[j] := List.getElem?_eq_getElem hjl
    obtain ⟨k', v', h1, h2, h3, h4⟩ := p2 j _ ht
    rw [hj] at h1
    cases h1
    show its.toArray[j]? = some (.ref (((ts[j]?).map (·.T)).getD 0)) ∧ PairAt s.heap (((ts[j]?).map (·.T)).getD 0) k v
    rw [ht]
    refine ⟨?_, h4⟩
    have hv : vs[j]? = some (.ref ts[j].T) := by rw [e1, List.getElem?_map, ht]; rfl
    obtain ⟨u, hu, ru⟩ := Vals.get rv hv
    cases ru
    simpa using hu
  have P := PairArg.list (prog := X.prog) (w := X.w) p its.toArray (fun j => ((ts[j]?).map (·.T)).getD 0) ps
  have hh : X.A.handled = none := I.ok.hd O.calm
  have hkl : kvs.length ≤ sizeLine := by
    have := foldl_len ts []
    rw [← e2] at this
    simp at this
    omega
  cases tp with
  | true =>
    have hp3 : PairsHaveH (nestedKind X.prog X.w) ps.length (PairRel ps) (nkOf ts ps) := by
      refine ⟨by simp [nkOf, p1], fun i key v hi => ?_⟩
      have hi' : ps[i]? = some (key, v) := hi
      have hil : i < ts.length := by
        rw [← p1]
        exact (List.getElem?_eq_some_iff.mp hi').1
      have ht : ts[i]? = some ts[i] := List.getElem?_eq_getElem hil
      obtain ⟨k', v', h1, h2, h3, h4⟩ := p2 i _ ht
      rw [hi'] at h1
      cases h1
      obtain ⟨_, q2, _, _, q5⟩ := e3 _ (List.getElem_mem hil)
      obtain ⟨b, hb⟩ := tup_ref q5 q2
      rw [hb] at h2
      refine ⟨toNK ts[i].k, b, ?_, h2⟩
      unfold nkOf
      rw [List.getElem?_map, show (ts.zip ps)[i]? = some (ts[i], (key, v)) from List.getElem?_zip_eq_some.mpr ⟨ht, hi'⟩]
      simp [hb, addrV]
    have hst : KeysStay (nestedKind X.prog X.w) s.heap s.heap.objs.size [] (nkOf ts ps) := by
      intro h' hk x hx
      obtain ⟨⟨t, kv⟩, hm1, rfl⟩ := List.mem_map.mp hx
      have htm : t ∈ ts := (List.of_mem_zip hm1).1
      obtain ⟨_, q2, _, q4, q5⟩ := e3 t htm
      obtain ⟨b, hb⟩ := tup_ref q5 q2
      obtain ⟨k1, k2, k3⟩ := keyOk_dep q4
      rw [hb] at q2
      have q2' : Dp X.K H (.ref b) t.k := O.K ▸ dp_same sF q2
      obtain ⟨as, ra⟩ := Dp.reads I t.k _ (.ref b) q2' rfl
      have ra' := PyProof.Rows.Reads.keeps (h' := h') (fun c o e => hk c o (Nat.ne_of_lt (Heap.lt_size e)) (fun z => nomatch z) e) ra
      show NestedIs h' (toNK t.k) (.ref (addrV t.x)) ∧ _
      rw [hb]
      exact ⟨nested_reads k1 ra', by rw [depth_toNK k1]; exact k2⟩
    refine call_dict_pairsH P hh (room8 O.hu) ⟨⟨o, n, ho, hc, hdn, hdt⟩, items⟩ hp3 hst hn fun h' tk hd' hk => ?_
    obtain ⟨ob, es, ep, d1, d2, d3, d4, d5, d6⟩ := hd'
    have new := nest_all (g := g) (F := F) (ts := ts) (ps := ps) (acc := []) (xs := []) p1.symm e3 (fun j t k v h1 h2 => by
      obtain ⟨k', v', z1, z2, z3, z4⟩ := p2 j t h1
      rw [h2] at z1
      cases z1
      exact z3) .nil
    rw [← e2] at new
    refine ⟨.ref s.heap.objs.size, upd H s.heap.objs.size (known s.heap.objs.size ob), I.laid (t' := tk) (fun b u e => hk b u (fun z => nomatch z) e) (Nat.le_refl _) ⟨d1, ⟨ob, d1⟩, fun a1 a2 x y => y _ x⟩, rfl, q _ _ (I.hok.fresh (Nat.le_refl _)) (.inr ⟨ob, rfl, hm, d2, hkl, es, ep, d3, _, ?_, d6, new⟩)⟩
    rw [← O.P, ← O.w]
    exact d4
  | false =>
    have hp3 : PairsHave (mixKind X.prog X.w) ps.length (PairRel ps) (lkOf ts ps) := by
      refine ⟨by simp [lkOf, p1], fun i key v hi => ?_⟩
      have hi' : ps[i]? = some (key, v) := hi
      have hil : i < ts.length := by
        rw [← p1]
        exact (List.getElem?_eq_some_iff.mp hi').1
      have ht : ts[i]? = some ts[i] := List.getElem?_eq_getElem hil
      obtain ⟨k', v', h1, h2, h3, h4⟩ := p2 i _ ht
      rw [hi'] at h1
      cases h1
      obtain ⟨e1, e2⟩ := leaf_of (e3 _ (List.getElem_mem hil))
      rw [e2] at h2
      refine ⟨keyOfD ts[i].k, ?_, kV_is h2⟩
      unfold lkOf
      rw [List.getElem?_map, show (ts.zip ps)[i]? = some (ts[i], (key, v)) from List.getElem?_zip_eq_some.mpr ⟨ht, hi'⟩]
      rfl
    refine call_dict_pairs P hh ⟨⟨o, n, ho, hc, hdn, hdt⟩, items⟩ hp3 hn fun h' tk hd' hk => ?_
    obtain ⟨n1, n2⟩ := leaf_all (g := g) (F := F) (ts := ts) (ps := ps) (acc := []) (xs := []) (us := []) p1.symm e3 (fun j t k v h1 h2 => by
      obtain ⟨k', v', z1, z2, z3, z4⟩ := p2 j t h1
      rw [h2] at z1
      cases z1
      exact z3) .nil .nil
    rw [← e2] at n1
    refine ⟨.ref s.heap.objs.size, upd H s.heap.objs.size (.dK (lvOf ts [])), I.laid (t' := tk) (fun b u e => hk b u (fun z => nomatch z) e) (Nat.le_refl _) (dk_new (by rw [← Paired.length n1]; exact hkl) hm n2 hd'), rfl, q _ _ (I.hok.fresh (Nat.le_refl _)) (.inl ⟨_, rfl, n1⟩)⟩
end Ev

set_option Elab.async false
set_option linter.all false
set_option maxRecDepth 100000
set_option maxHeartbeats 1000000
/-! sorted, dict, list of a range, len of a set: what is read is what they do. -/
namespace Ev
open PySem PySem.Spec PyProof.Rows L2
open L2.DX (itemsO)
variable {g : G} {cl : Calls} {X : Cx}
theorem cn_dict : CnOk g dictB (rDictL g) := by
  intro gh st H as c vs Q R n e q
  unfold dictB at e
  split at e
  · obtain ⟨kvs, h1, rfl⟩ := Option.map_eq_some_iff.mp e
    obtain ⟨v, rfl, m⟩ := now1 n
    obtain ⟨p, ws, rfl, k1, k2⟩ := now_list R.sub m
    exact ⟨p, gh.F, ws, _, kvs, rfl, k1, R.sub, k2, h1, fun l o hl d => q l o hl (cell_newD d (R.sub.free hl))⟩
  · cases e
theorem cn_sort : CnOk g sortB (rSortC g (fun x H Q => rColS g x H Q ∨ rColD g x H Q)) := by
  intro gh st H as c vs Q R n e q
  have fin : ∀ ds vs, DpAll g.K gh.F vs ds → srtOk ds = true → c = .list (sortL ds) → ∃ ds, DpAll g.K H vs ds ∧ srtOk ds = true ∧ ∀ l, H l = none → Q (.ref l) (upd H l (.lst (sortV vs ds))) :=
    fun ds vs d h e => ⟨ds, dps_same R.sub d, h, fun l hl => q l _ hl (by rw [e]; exact cell_new (sortV_dps d) (R.sub.free hl))⟩
  unfold sortB at e
  split at e
  · obtain ⟨hs, h3⟩ := ite_some e
    cases h3
    obtain ⟨v, rfl, m⟩ := now1 n
    obtain ⟨p, ws, rfl, k1, k2⟩ := now_list R.sub m
    exact ⟨_, rfl, .inl ⟨p, ws, rfl, .inl k1, fin _ _ k2 hs rfl⟩⟩
  · obtain ⟨hs, h3⟩ := ite_some e
    cases h3
    obtain ⟨v, rfl, m⟩ := now1 n
    obtain ⟨p, ws, rfl, k1, _, k2⟩ := now_tup R.sub m
    exact ⟨_, rfl, .inl ⟨p, ws, rfl, .inr k1, fin _ _ k2 hs rfl⟩⟩
  · obtain ⟨hs, h3⟩ := ite_some e
    cases h3
    obtain ⟨v, rfl, m⟩ := now1 n
    obtain ⟨p, rfl, d⟩ := now_dict' R.sub m
    exact ⟨_, rfl, .inr ⟨p, gh.F, _, rfl, R.sub, d, fun ks hk => fin _ _ hk hs rfl⟩⟩
  · cases e
/-- the one argument of a new value -/
theorem nbi1 {k : List PyData → Option PyData} {f : Sm W} {σ : L2.St} {H : Hp} {Q : VK} (t : tN g cl (nBi [f] k) σ H Q) : tD g cl f σ H fun v H1 => ∃ gh st c a, Rep g gh st H1 ∧ Now g gh H1 v a ∧ k [a] = some c ∧
    ∀ p o gh' H', Stp gh gh' st st H1 H' → Rep g gh' st H' → H' p = none → CellOk g gh'.F (upd H' p o) ⟨c, .live⟩ p → Q (.ref p) (upd H' p o) := by
  obtain ⟨ρ, gh, st, d, st', re, R, e, q⟩ := t
  obtain ⟨ws, st1, e1, f1⟩ := bind_ok e
  obtain ⟨ds, s2, e2, f2⟩ := bind_ok f1
  obtain ⟨k5, e6⟩ := opt_ok f2
  subst e6
  obtain ⟨w1, s1, a1, b1⟩ := bind_ok (f := f cl ρ) e1
  obtain ⟨zs, s3, a2, b2⟩ := bind_ok (f := evalsR [] cl ρ) b1
  obtain ⟨rfl, rfl⟩ := pure_ok b2
  obtain ⟨rfl, rfl⟩ := pure_ok a2
  refine ⟨ρ, gh, st, w1, _, re, R, a1, fun v gh1 H1 S1 R1 r1 => ?_⟩
  obtain ⟨rfl, n⟩ := derefs_now R1 (ws := [w1]) (vs := [v]) ⟨r1, trivial⟩ e2
  cases n with
  | cons n n' =>
    cases n'
    exact ⟨gh1, _, d, _, R1, n, k5, fun p o gh' H' S2 R2 => q p o gh' H' (S1.trans R R1 S2) R2⟩
theorem pe_oneD (O : Ops g X) {x : Str} {b : Bi} {a a' : Expr} {k : List PyData → Option PyData} {f : Sm W} {p pos : Pos} (B : BiAt X x b) (hk : mkOne b a = .one a' k) (hs : isStar a = false) (ha : PE X a (tD g cl f)) : PE X (.Call (.Name x p) [a] [] pos) (tN g cl (nBi [f] k)) := by
  cases b <;> simp only [mkOne, reduceCtorEq] at hk <;> cases hk
  · exact PE.to (pe_callBi B (cb_sortC O ((col_seq O).or (col_dict O))) (pa_consR hs ha pa_nilR) (by simp [hs])) fun σ H Q t => t_nbi cn_sort t
  · exact PE.to (pe_callBi B call_list_of (pa_consR hs ha pa_nilR) (by simp [hs])) fun σ H Q t => O.K ▸ t_nbi cn_list t
  · exact PE.to (pe_callBi B (cb_dictL O) (pa_consR hs ha pa_nilR) (by simp [hs])) fun σ H Q t => t_nbi cn_dict t
theorem dat_same {F F' H H' : Hp} {p : Addr} {kvs : List (PyData × PyData)} (sF : Same F F') (sH : Same H H') (d : DAt g F H p kvs) : DAt g F' H' p kvs := by
  obtain ⟨o, h1, h2⟩ := d
  exact ⟨o, sH _ _ h1, h2.same sF⟩
theorem same_upd {H : Hp} {p : Addr} {o : HO} (hp : H p = none) : Same H (upd H p o) := fun b u h => by rw [upd_ne (ne_of_none h hp)]; exact h
theorem ent_dps {K : PySem.W.Frag} {F F' : Hp} (sF : Same F F') : ∀ {as : List Addr} {ks ws : List V} {kvs : List (PyData × PyData)}, DpAll K F ks (kvs.map (·.1)) → DpAll K F ws (kvs.map (·.2)) → as.length = kvs.length →
    (∀ q ∈ as.zip (entT ks ws), F' q.1 = some q.2) → DpAll K F' (as.map .ref) (kvs.map pairD)
  | [], _, _, [], _, _, _, _ => .nil
  | [], _, _, _ :: _, _, _, h, _ => by simp at h
  | _ :: _, _, _, [], _, _, h, _ => by simp at h
  | a :: as, ks, ws, kv :: kvs, h1, h2, h, hz => by
    cases h1 with
    | cons k1 k2 =>
      cases h2 with
      | cons w1 w2 =>
        refine .cons (.tup (.inl (.inl (hz (a, _) List.mem_cons_self))) (.cons (dp_same sF k1) (.cons (dp_same sF w1) .nil))) (ent_dps sF k2 w2 (by simpa using h) fun q hq => hz q (List.mem_cons_of_mem _ hq))
theorem ent_len {ks ws : List V} {n : Nat} (h1 : ks.length = n) (h2 : ws.length = n) : (entT ks ws).length = n := by
  unfold entT
  rw [List.length_zipWith, h1, h2, Nat.min_self]
theorem pe_srtItD (O : Ops g X) {x : Str} {o : Expr} {f : Sm W} {p ap cp pos : Pos} (B : BiAt X x .sorted) (hb : baseOk o = true) (hl : (ap.endLine == cp.line) = true) (ho : PE X o (tD g cl f)) :
    PE X (.Call (.Name x p) [.Call (.Attribute o "items" ap) [] [] cp] [] pos) (tN g cl (nBi [f] sortItB)) := by
  refine PE.to (pe_callBi B (cb_sortC O (col_items O)) (pa_cons (pe_bmg0 (name := "items") ho (base_of hb ..) hl) pa_nil (star_cons rfl)) rfl) fun σ H Q t => ?_
  obtain ⟨ρ, gh, st, w, st', re, R, e, q⟩ := nbi1 t
  refine ⟨ρ, gh, st, w, st', re, R, e, fun v gh0 H1 S0 R0 r0 => ?_⟩
  obtain ⟨gh1, st1, c, a, R1, n, hk, q1⟩ := q v gh0 H1 S0 R0 r0
  unfold sortItB at hk
  split at hk
  · rename_i kvs he
    cases he
    obtain ⟨hs, h3⟩ := ite_some hk
    cases h3
    obtain ⟨d, h1, h2⟩ := now_dict' R1.sub n
    subst h1
    refine ⟨"dict", "dict.items", _, mf_itm O, ty_dict O R1.sub n, d, gh1.F, kvs, rfl, rfl, R1.sub, h2, fun v hv => ?_⟩
    obtain ⟨R2, S2⟩ := R1.alloc hv (itemsO v d)
    have sF : Same gh1.F (upd gh1.F v (itemsO v d)) := S2.F
    refine ⟨.ref v, rfl, v, d, _, kvs, rfl, upd_same, R2.sub, dat_same sF (same_upd hv) h2, fun as ks ws d1 d2 l1 nd fr => ?_⟩
    have le : (entT ks ws).length = as.length := ent_len (by rw [dps_len d1, List.length_map, l1]) (by rw [dps_len d2, List.length_map, l1])
    have e1 : (as.zip (entT ks ws)).map (·.1) = as := List.map_fst_zip (by omega)
    have nd' : ((as.zip (entT ks ws)).map (·.1)).Nodup := by rw [e1]; exact nd
    obtain ⟨R3, S3⟩ := Rep.many (l := as.zip (entT ks ws)) R2 nd' fun p hp => fr _ (List.of_mem_zip hp).1
    have dd := ent_dps (as := as) S3.F d1 d2 l1 fun q hq => updL_in nd' hq
    exact ⟨_, dps_same R3.sub dd, hs, fun l hl => q1 l _ _ _ (S2.trans R1 R2 S3) R3 hl (cell_new (sortV_dps dd) (R3.sub.free hl))⟩
  · cases hk
theorem rg_dps {K : PySem.W.Frag} {F : Hp} (i j : Int) : DpAll K F (rgV i j) ((List.range (j - i).toNat).map fun t => .int (i + (t : Nat))) := by
  unfold rgV
  exact dps_of (fun t : Nat => V.int (i + (t : Nat))) (fun t : Nat => PyData.int (i + (t : Nat))) fun t _ => .int _
theorem pe_rg1D (O : Ops g X) {x y : Str} {a : Expr} {f : Sm W} {p p2 cp pos : Pos} (B : BiAt X x .tlist) (B' : BiAt X y .range) (hx : x = "list") (hy : y = "range") (hs : isStar a = false) (ha : PE X a (tD g cl f)) :
    PE X (.Call (.Name x p) [.Call (.Name y p2) [a] [] cp] [] pos) (tN g cl (nBi [f] rangeB)) := by
  subst hx hy
  refine PE.to (pe_listRg O.calm B.gl B.mg (prg_1 B'.gl B'.mg ha (star_cons hs))) fun σ H Q t => ?_
  obtain ⟨ρ, gh, st, w, st', re, R, e, q⟩ := nbi1 t
  refine ⟨ρ, gh, st, w, st', re, R, e, fun v gh0 H1 S0 R0 r0 => ?_⟩
  obtain ⟨gh1, st1, c, d, R1, n, hk, q1⟩ := q v gh0 H1 S0 R0 r0
  unfold rangeB at hk
  split at hk
  · rename_i j he
    cases he
    obtain ⟨hj, h3⟩ := ite_some hk
    cases h3
    have hj := of_decide_eq_true (p := _) (by simpa using hj)
    refine ⟨j, now_int n, by unfold RgOk; omega, fun l hl => q1 l _ _ _ (.refl _ _ _) R1 hl (cell_new ?_ (R1.sub.free hl))⟩
    have := rg_dps (K := g.K) (F := gh1.F) 0 j
    rwa [Int.sub_zero] at this
  · rename_i he
    cases he
  · cases hk
theorem nbi2 {k : List PyData → Option PyData} {f h : Sm W} {σ : L2.St} {H : Hp} {Q : VK} (t : tN g cl (nBi [f, h] k) σ H Q) : tD g cl f σ H fun v H1 => tD g cl h σ H1 fun u H2 => ∃ gh st c a b, Rep g gh st H2 ∧ (Now g gh H2 v a ∨ ∃ g1 h1, Same g1.F gh.F ∧ Now g g1 h1 v a) ∧ Now g gh H2 u b ∧ k [a, b] = some c ∧
    ∀ p o gh' H', Stp gh gh' st st H2 H' → Rep g gh' st H' → H' p = none → CellOk g gh'.F (upd H' p o) ⟨c, .live⟩ p → Q (.ref p) (upd H' p o) := by
  obtain ⟨ρ, gh, st, d, st', re, R, e, q⟩ := t
  obtain ⟨ws, st1, e1, f1⟩ := bind_ok e
  obtain ⟨ds, s2, e2, f2⟩ := bind_ok f1
  obtain ⟨k5, e6⟩ := opt_ok f2
  subst e6
  obtain ⟨w1, s1, a1, b1⟩ := bind_ok (f := f cl ρ) e1
  obtain ⟨ys, s3, a2, b2⟩ := bind_ok (f := evalsR [h] cl ρ) b1
  obtain ⟨rfl, rfl⟩ := pure_ok b2
  obtain ⟨w2, s4, a3, b3⟩ := bind_ok (f := h cl ρ) a2
  obtain ⟨zs, s5, a4, b4⟩ := bind_ok (f := evalsR [] cl ρ) b3
  obtain ⟨rfl, rfl⟩ := pure_ok b4
  obtain ⟨rfl, rfl⟩ := pure_ok a4
  refine ⟨ρ, gh, st, w1, s1, re, R, a1, fun v gh1 H1 S1 R1 r1 => ⟨ρ, gh1, s1, w2, _, re.mono S1, R1, a3, fun u gh2 H2 S2 R2 r2 => ?_⟩⟩
  obtain ⟨rfl, n⟩ := derefs_now R2 (ws := [w1, w2]) (vs := [v, u]) ⟨r1.mono S2, r2, trivial⟩ e2
  cases n with
  | cons n1 n' =>
    cases n' with
    | cons n2 n' =>
      cases n'
      exact ⟨gh2, _, d, _, _, R2, .inl n1, n2, k5, fun p o gh' H' S3 R3 => q p o gh' H' ((S1.trans R R1 S2).trans R R2 S3) R3⟩
theorem pe_rg2D (O : Ops g X) {x y : Str} {a b : Expr} {f h : Sm W} {p p2 cp pos : Pos} (B : BiAt X x .tlist) (B' : BiAt X y .range) (hx : x = "list") (hy : y = "range") (hs : isStar a = false) (hs' : isStar b = false) (ha : PE X a (tD g cl f)) (hb : PE X b (tD g cl h)) :
    PE X (.Call (.Name x p) [.Call (.Name y p2) [a, b] [] cp] [] pos) (tN g cl (nBi [f, h] rangeB)) := by
  subst hx hy
  refine PE.to (pe_listRg O.calm B.gl B.mg (prg_2 B'.gl B'.mg ha hb (star_cons hs) (star_cons hs') (star_plain (es := [b]) (by simp [hs'])))) fun σ H Q t => ?_
  obtain ⟨ρ, gh, st, w, st', re, R, e, q⟩ := nbi2 t
  refine ⟨ρ, gh, st, w, st', re, R, e, fun v gh0 H1 S0 R0 r0 => ?_⟩
  obtain ⟨ρ1, gh1, st1, w1, st1', re1, R1, e1, q1⟩ := q v gh0 H1 S0 R0 r0
  refine ⟨ρ1, gh1, st1, w1, st1', re1, R1, e1, fun u gh2 H2 S2 R2 r2 => ?_⟩
  obtain ⟨gh3, st3, c, d, d', R3, n, n', hk, q3⟩ := q1 u gh2 H2 S2 R2 r2
  unfold rangeB at hk
  split at hk
  · rename_i he
    cases he
  · rename_i i j he
    cases he
    obtain ⟨hj, h3⟩ := ite_some hk
    cases h3
    have e1 : v = .int i := by
      rcases n with n | ⟨_, _, _, n⟩
      · exact now_int n
      · exact now_int n
    exact ⟨i, j, e1, now_int n', by unfold RgOk; omega, fun l hl => q3 l _ _ _ (.refl _ _ _) R3 hl (cell_new (rg_dps i j) (R3.sub.free hl))⟩
  · cases hk
end Ev

set_option Elab.async false
set_option linter.all false
set_option maxRecDepth 100000
set_option maxHeartbeats 1000000
/-! len(set(xs)), xs a list of tuples of ints. -/
namespace Ev
open PySem PySem.Spec PyProof.Rows L2
variable {g : G} {cl : Calls} {X : Cx}
theorem nodup_dups {α : Type} [BEq α] [LawfulBEq α] : ∀ (n : Nat) (l : List α), l.length ≤ n → l.eraseDups.Nodup
  | _, [], _ => by rw [List.eraseDups_nil]; exact .nil
  | 0, _ :: _, h => by simp at h
  | n + 1, a :: l, h => by
    rw [List.eraseDups_cons, List.nodup_cons]
    refine ⟨fun hm => ?_, nodup_dups n _ (Nat.le_trans (List.length_filter_le ..) (by simpa using h))⟩
    rw [List.mem_eraseDups, List.mem_filter] at hm
    simp at hm
theorem dups_len {α : Type} [BEq α] [LawfulBEq α] {l m : List α} (hm : m.Nodup) (h : ∀ a, a ∈ m ↔ a ∈ l) : l.eraseDups.length = m.length :=
  ((List.perm_ext_iff_of_nodup (nodup_dups _ l (Nat.le_refl _)) hm).mpr fun a => by rw [List.mem_eraseDups, h]).length_eq
def rLenSet (g : G) (X : Cx) : List V → Hp → VK → Prop := fun xs H Q => ∃ a L, xs = [V.ref a] ∧ H a = some (SetTO X.prog X.w a L) ∧ (∀ p ∈ L, SqT g.K H p.1 (p.2.map V.int)) ∧ ((L.map (·.2)).Nodup → Q (.int L.length) H)
theorem cb_lenSet (O : Ops g X) : CallR X (.builtin "len") (rLenSet g X) := by
  intro pins s σ H xs us Q I r h
  obtain ⟨a, L, rfl, ha, hk, q⟩ := h
  obtain ⟨u, rfl, rx⟩ := vals1 r
  cases rx
  have R0 : SetT0 X.prog X.w s.heap a L := (I.hok a _ ha).1
  obtain ⟨es, ep, t, R⟩ := R0.full fun p hp => I.isT (O.K ▸ hk p hp)
  obtain ⟨o, ho, hex, hd⟩ := R.ob
  have hz : es.size = L.length := by
    rw [← Array.length_toList, R.rows]
    simp [L2.rowsOf]
  have hf := R.fits
  refine call_len_set ho hex hd hf ?_ ⟨.int L.length, H, I.tok _, ⟨_, by rw [hz]⟩, q R.nd⟩
  have := R.few
  rw [hz]
  omega
theorem int_dps {K : PySem.W.Frag} {F : Hp} : ∀ {vs : List V} {ds : List PyData} {ns : List Int}, DpAll K F vs ds → intsOf ds = some ns → vs = ns.map V.int
  | _, [], ns, h, e => by
    cases h
    cases e
    rfl
  | _, d :: ds, ns, h, e => by
    cases h with
    | cons h1 h2 =>
      cases d with
      | int i =>
        have e' : (intsOf ds).map (i :: ·) = some ns := e
        obtain ⟨ms, e1, rfl⟩ := Option.map_eq_some_iff.mp e'
        cases h1
        rw [int_dps h2 e1]
        rfl
      | _ => cases e
theorem rows_dps {K : PySem.W.Frag} {F : Hp} : ∀ {vs : List V} {ds : List PyData} {rs : List (List Int)}, DpAll K F vs ds → Ev.rowsOf ds = some rs → ∃ ks : List (Addr × List Int), vs = ks.map (fun p => V.ref p.1) ∧ ks.map (·.2) = rs ∧ ∀ p ∈ ks, SqT K F p.1 (p.2.map V.int)
  | _, [], rs, h, e => by
    cases h
    cases e
    exact ⟨[], rfl, rfl, fun p h => by cases h⟩
  | _, d :: ds, rs, h, e => by
    cases h with
    | cons h1 h2 =>
      cases d with
      | tuple x =>
        have e' : (match intsOf x with | some ns => (Ev.rowsOf ds).map (ns :: ·) | none => none) = some rs := e
        split at e'
        · rename_i ns e0
          obtain ⟨ms, e1, rfl⟩ := Option.map_eq_some_iff.mp e'
          obtain ⟨ks, k1, k2, k3⟩ := rows_dps h2 e1
          cases h1 with
          | tup q r =>
            rename_i p vs'
            refine ⟨(p, ns) :: ks, by rw [k1]; rfl, by rw [List.map_cons, k2], fun q' hq => ?_⟩
            rcases List.mem_cons.mp hq with z | z
            · subst z
              rw [int_dps r e0] at q
              exact q
            · exact k3 q' z
        · cases e'
      | _ => cases e
theorem pe_lenSetD (O : Ops g X) {x y : Str} {a : Expr} {f : Sm W} {p p2 cp pos : Pos} (B : BiAt X x .len) (B' : BiAt X y .tset) (hs : isStar a = false) (ha : PE X a (tD g cl f)) : PE X (.Call (.Name x p) [.Call (.Name y p2) [a] [] cp] [] pos) (tD g cl (eBi [f] lenSetB)) := by
  refine PE.to (pe_callBi B (cb_lenSet O) (pa_cons (pe_callBi B' (cr_setOfT O.calm O.hu) (pa_consR hs ha pa_nilR) (by simp [hs])) pa_nil (star_cons rfl)) rfl) fun σ H Q t => ?_
  obtain ⟨ρ, gh, st, w, st', re, R, e, q⟩ := t
  obtain ⟨ws, st1, e1, f1⟩ := bind_ok e
  obtain ⟨ds, s2, e2, f2⟩ := bind_ok f1
  obtain ⟨c, s5, e5, f5⟩ := bind_ok f2
  obtain ⟨rfl, rfl⟩ := pure_ok f5
  obtain ⟨k5, e6⟩ := opt_ok e5
  subst e6
  refine ⟨ρ, gh, st, ws, st1, re, R, e1, fun vs0 gh1 H1 S1 R1 r1 => ?_⟩
  obtain ⟨rfl, n⟩ := derefs_now R1 r1 e2
  unfold lenSetB at k5
  split at k5
  · rename_i xs
    obtain ⟨hl, h3⟩ := ite_some k5
    obtain ⟨rs, h4, rfl⟩ := Option.map_eq_some_iff.mp h3
    obtain ⟨v', rfl, m⟩ := now1 n
    obtain ⟨p, vs, rfl, h1, h2⟩ := now_list R1.sub m
    obtain ⟨ks, k1, k2, k3⟩ := rows_dps h2 h4
    have hkl : ks.length < 64 := by
      have := dps_len h2
      rw [k1, List.length_map] at this
      omega
    refine ⟨p, ks, rfl, O.K ▸ k1 ▸ h1, fun q hq => O.K ▸ Same.seqT R1.sub (k3 q hq), hkl, fun b L hb l1 l2 => ?_⟩
    have sH : Same H1 (upd H1 b (SetTO X.prog X.w b L)) := same_upd hb
    refine ⟨b, L, rfl, upd_same, fun q hq => Same.seqT sH (Same.seqT R1.sub (k3 q (l1 q hq))), fun nd => ?_⟩
    obtain ⟨R2, S2⟩ := R1.alloc hb (SetTO X.prog X.w b L)
    have hd : ((rs.eraseDups.length : Nat) : Int) = (L.length : Int) := by
      rw [dups_len (m := L.map (·.2)) nd fun z => ⟨fun hz => ?_, fun hz => ?_⟩, List.length_map]
      · obtain ⟨q, hq, rfl⟩ := List.mem_map.mp hz
        rw [← k2]
        exact List.mem_map_of_mem (f := (·.2)) (l1 q hq)
      · rw [← k2] at hz
        obtain ⟨q, hq, rfl⟩ := List.mem_map.mp hz
        exact l2 q hq
    rw [← hd]
    exact q _ _ _ (S1.trans R R1 S2) R2 (.int _)
  · cases k5
end Ev

set_option Elab.async false
set_option linter.all false
set_option maxRecDepth 100000
set_option maxHeartbeats 1000000
/-! The induction over the text: expressions. -/
namespace Ev
open PySem PySem.Spec PyProof.Rows L2
variable {g : G} {tbl : List FnD} {k : Nat} {C : EC} {X : Cx}
theorem t_new {cl : Calls} {m : Sm PyData} {σ : L2.St} {H : Hp} {Q : VK} (t : tD g cl (eNew m) σ H Q) : tN g cl m σ H Q := by
  obtain ⟨ρ, gh, st, w, st', re, R, e, q⟩ := t
  obtain ⟨d, st1, e1, e⟩ := bind_ok e
  refine ⟨ρ, gh, st, d, st1, re, R, e1, fun p o gh1 H1 S1 R1 hp c => ?_⟩
  cases d with
  | list ds =>
    simp only [listOnly] at e
    obtain ⟨rfl, rfl⟩ := pure_ok e
    obtain ⟨vs, h1, h2, _⟩ := c
    rw [upd_same] at h1
    cases h1
    obtain ⟨R2, S2⟩ := R1.alloc hp (.lst vs)
    exact q _ _ _ (S1.trans R R1 S2) R2 (.lst (.inl (.inl upd_same)) (dps_same S2.F h2))
  | _ => cases e
theorem t_box {cl : Calls} {m : Sm PyData} {σ : L2.St} {H : Hp} {Q : VK} (t : tD g cl (eBox m) σ H Q) : tN g cl m σ H Q := by
  obtain ⟨ρ, gh, st, w, st', re, R, e, q⟩ := t
  obtain ⟨d, st1, e1, e⟩ := bind_ok e
  refine ⟨ρ, gh, st, d, st1, re, R, e1, fun p o gh1 H1 S1 R1 hp c => ?_⟩
  cases e
  obtain ⟨R2, S2⟩ := R1.box hp o d c
  exact q _ _ _ (S1.trans R R1 S2) R2 ⟨p, by rw [← R1.len]; exact List.getElem?_concat_length, rfl⟩
/-- what a new list is kept as -/
inductive Keep : (Sm PyData → Sm W) → Prop
  | new : Keep eNew
  | box : Keep eBox
theorem Keep.t {F : Sm PyData → Sm W} (h : Keep F) {cl : Calls} {m : Sm PyData} {σ : L2.St} {H : Hp} {Q : VK} (t : tD g cl (F m) σ H Q) : tN g cl m σ H Q := by
  cases h
  · exact t_new t
  · exact t_box t
theorem Keep.pe {F : Sm PyData → Sm W} (h : Keep F) {cl : Calls} {m : Sm PyData} {e : Expr} (p : PE X e (tN g cl m)) : PE X e (tD g cl (F m)) := PE.to p fun σ H Q t => h.t t
theorem slK_plain {b : Expr} (h : slK b = .plain) : isSlice b = false := by
  cases b <;> first | rfl | skip
  rename_i lo hi st p
  unfold slK at h
  split at h <;> cases h
  rename_i h1 h2 h3
  exact absurd rfl (h3 _ _ _ _)
theorem slK_cut {b : Expr} {lo hi : Option Expr} (h : slK b = .cut lo hi) : ∃ p, b = .Slice lo hi none p := by
  unfold slK at h
  split at h <;> cases h
  exact ⟨_, rfl⟩
theorem slK_back {b : Expr} (h : slK b = .back) : ∃ k p1 p2 p3, b = .Slice none none (some (.UnaryOp .USub (.Constant (.int 1) k p1) p2)) p3 := by
  unfold slK at h
  split at h <;> cases h
  exact ⟨_, _, _, _, rfl⟩
theorem met_ok (O : Ops g X) {m : Str} {k : Kd → List PyData → Option PyData} (h : metK m = some k) : MkOk g X m k := by
  unfold metK at h
  split at h
  · rename_i e
    cases h
    rw [e]
    exact mk_index O
  · split at h
    · rename_i e
      cases h
      rw [e]
      exact mk_join O
    · split at h
      · rename_i e
        cases h
        rw [e]
        exact mk_get O
      · cases h
theorem mut_ok (O : Ops g X) {m : Str} {k : Kd → PyData → List PyData → Option (PyData × PyData)} (h : mutK m = some k) : MxOk g X m k := by
  unfold mutK at h
  split at h
  · rename_i e
    cases h
    rw [e]
    exact mx_append
  · split at h
    · rename_i e
      cases h
      rw [e]
      exact mx_extend O
    · split at h
      · rename_i e
        cases h
        rw [e]
        exact mx_popAt O
      · cases h
theorem topTup_ok {o : Expr} {ds : List PyData} (h : topTup C o = some ds) : ∃ x p, o = .Name x p ∧ glob C x = some (.val (.tuple ds)) := by
  unfold topTup at h
  split at h
  · split at h
    · rename_i e1 e2
      cases h
      exact ⟨_, _, rfl, e2⟩
    · cases h
  · cases h
theorem tyArg_ok {x : Str} {args : List Expr} {a : Expr} {T : Ty} (h : tyArg C x args = some (a, T)) : glob C x = some (.bi .isinstance) ∧ ∃ y p b, args = [a, .Name y p] ∧ glob C y = some (.bi b) ∧ tyOf b = some T := by
  unfold tyArg at h
  split at h
  · rename_i e1 e2
    split at h
    · split at h
      · rename_i e3 e4
        cases h
        obtain ⟨b, e5, e6⟩ := Option.bind_eq_some_iff.mp e4
        unfold biOf at e5
        split at e5
        · rename_i e7
          cases e5
          exact ⟨e2, _, _, _, rfl, e7, e6⟩
        · cases e5
      · cases h
    · cases h
  · cases h
theorem tyOf_val {b : Bi} {T : Ty} (h : tyOf b = some T) : biVal b = .type (tyName T) := by
  cases b <;> simp only [tyOf, reduceCtorEq] at h <;> cases h <;> rfl
def isOne : MkK → Bool
  | .one .. => true
  | .no => true
  | _ => false
theorem mk_one {m : MkK} (b : Bi) (a : Expr) (h : mkOne b a = m) (hm : isOne m = false := by rfl) : False := by
  subst h
  cases b <;> cases hm
/-- what makes a new list or dict -/
theorem pe_mkD (Γ : Good g tbl k C X) {x : Str} {args : List Expr} {m : Sm PyData} {n : Nat} {p pos : Pos} (hE : ∀ e f, semE C n e = some f → PE X e (tD g (callD tbl k) f))
    (h : (match mkK C x args with
        | .one a k => (semE C n a).map fun f => nBi [f] k
        | .items o => (semE C n o).map fun f => nBi [f] sortItB
        | .rg1 a => (semE C n a).map fun f => nBi [f] rangeB
        | .rg2 a b => match semE C n a, semE C n b with
          | some f, some h => some (nBi [f, h] rangeB)
          | _, _ => none
        | .no => none) = some m) : PE X (.Call (.Name x p) args [] pos) (tN g (callD tbl k) m) := by
  have star : ∀ {a f}, semE C n a = some f → isStar a = false := fun {a f} h => by
    cases a <;> first | rfl | (cases n <;> cases h)
  split at h
  · rename_i a k' e0
    obtain ⟨f, h1, rfl⟩ := Option.map_eq_some_iff.mp h
    have one : ∀ {b : Bi} {a' : Expr}, glob C x = some (.bi b) → mkOne b a' = .one a k' → PE X (.Call (.Name x p) [a'] [] pos) (tN g (callD tbl k) (nBi [f] k')) := fun {b a'} hb hm => by
      have ea : a' = a := by
        cases b <;> simp only [mkOne, reduceCtorEq] at hm <;> cases hm <;> rfl
      subst ea
      exact pe_oneD Γ.O (bi_at Γ hb) hm (star h1) (hE _ _ h1)
    unfold mkK at e0
    split at e0
    · rename_i g1 g2
      split at e0
      · split at e0 <;> cases e0
      · split at e0
        · split at e0 <;> cases e0
        · split at e0 <;> cases e0
        · exact one g2 e0
      · exact one g2 e0
    · cases e0
  · rename_i o e0
    obtain ⟨f, h1, rfl⟩ := Option.map_eq_some_iff.mp h
    unfold mkK at e0
    split at e0
    · rename_i g1 g2
      split at e0
      · split at e0
        · rename_i hc
          cases e0
          obtain ⟨hm, hb, hl⟩ := hc
          subst hm
          exact pe_srtItD Γ.O (bi_at Γ g2) hb hl (hE _ _ h1)
        · cases e0
      · split at e0
        · split at e0 <;> cases e0
        · split at e0 <;> cases e0
        · cases e0
      · exact mk_one _ _ e0 |>.elim
    · cases e0
  · rename_i a e0
    obtain ⟨f, h1, rfl⟩ := Option.map_eq_some_iff.mp h
    unfold mkK at e0
    split at e0
    · rename_i g1 g2
      split at e0
      · split at e0 <;> cases e0
      · split at e0
        · rename_i e1 e2
          split at e0
          · cases e0
          · rename_i hs
            cases e0
            exact pe_rg1D Γ.O (bi_at Γ g2) (bi_at Γ e2) (Γ.gl.bi _ _ (glob_ok Γ g2).2.1).1 (Γ.gl.bi _ _ (glob_ok Γ e2).2.1).1 (Bool.eq_false_iff.mpr hs) (hE _ _ h1)
        · split at e0 <;> cases e0
        · cases e0
      · exact mk_one _ _ e0 |>.elim
    · cases e0
  · rename_i a b e0
    split at h
    · rename_i f1 f2 h1 h2
      cases h
      unfold mkK at e0
      split at e0
      · rename_i g1 g2
        split at e0
        · split at e0 <;> cases e0
        · split at e0
          · split at e0 <;> cases e0
          · rename_i e1 e2
            split at e0
            · cases e0
            · rename_i hs
              cases e0
              have hs := Bool.eq_false_iff.mpr hs
              rw [Bool.or_eq_false_iff] at hs
              exact pe_rg2D Γ.O (bi_at Γ g2) (bi_at Γ e2) (Γ.gl.bi _ _ (glob_ok Γ g2).2.1).1 (Γ.gl.bi _ _ (glob_ok Γ e2).2.1).1 hs.1 hs.2 (hE _ _ h1) (hE _ _ h2)
          · cases e0
        · exact mk_one _ _ e0 |>.elim
      · cases e0
    · cases h
  · cases h
theorem lenSet_ok {x : Str} {args : List Expr} {a : Expr} (h : lenSet C x args = some a) : glob C x = some (.bi .len) ∧ ∃ y p q, args = [.Call (.Name y p) [a] [] q] ∧ glob C y = some (.bi .tset) ∧ isStar a = false := by
  unfold lenSet at h
  split at h
  · rename_i e1 e2
    split at h
    · rename_i e3 e4
      split at h
      · cases h
      · rename_i e5
        cases h
        exact ⟨e2, _, _, _, rfl, e4, Bool.eq_false_iff.mpr e5⟩
    · cases h
  · cases h
/-- all that is told of the readings with fuel n -/
structure AllOk (g : G) (tbl : List FnD) (k n : Nat) : Prop where
  E : ∀ {C X}, Good g tbl k C X → ∀ e f, semE C n e = some f → PE X e (tD g (callD tbl k) f)
  K : ∀ {C X}, Good g tbl k C X → ∀ fn args pos f, semK C n fn args pos = some f → PE X (.Call fn args [] pos) (tD g (callD tbl k) f)
  Es : ∀ {C X}, Good g tbl k C X → ∀ es fs, semEs C n es = some fs → PA X es (tWs g (callD tbl k) (evalsR fs)) ∧ PA X es (tWs g (callD tbl k) (evalsA fs)) ∧ PA X es (tDs g (callD tbl k) (evalsD fs)) ∧ es.any isStar = false ∧ fs.length = es.length
  B : ∀ {C X}, Good g tbl k C X → ∀ op es f, semB C n op es = some f → ∀ pos, PE X (.BoolOp op es pos) (tD g (callD tbl k) f)
  O : ∀ {C X}, Good g tbl k C X → ∀ o l, semO C n o = some l → PO X o (tP g (callD tbl k) (evalPartI l))
  T : ∀ {C X}, Good g tbl k C X → ∀ e t, semT C n e = some t → PT X e (tB g (callD tbl k) t)
  Ts : ∀ {C X}, Good g tbl k C X → ∀ op es t, semTs C n op es = some t → ∀ pos, PW X (.BoolOp op es pos) (tB g (callD tbl k) t)
  N : ∀ {C X}, Good g tbl k C X → ∀ e m, semN C n e = some m → PE X e (tN g (callD tbl k) m) ∧
    ∀ F, Keep F → ∀ i y py spos, X.N[i]? = some y → Loc X.env.scope y → (X.fn y = true ∨ X.env.scope.names.lookup y = some .local) → PS X (.Assign [.Name y py] e spos) (tS g (callD tbl k) (sSet i (F m)))
  Cl : ∀ {C X}, Good g tbl k C X → ∀ es t, semC C n es = some t → PTs X es (tB g (callD tbl k) t)
  I : ∀ {C X}, Good g tbl k C X → ∀ tg e si, semI C n tg e = some si → PI X tg e (tI g (callD tbl k) si)
theorem pe_evalA0 {cl : Calls} {σ : L2.St} {H : Hp} {Q : List V → Hp → Prop} (t : tWs g cl (evalsA []) σ H Q) : Q [] H := by
  obtain ⟨ρ, gh, st, ws, st', re, R, e, q⟩ := t
  obtain ⟨rfl, rfl⟩ := pure_ok e
  exact q [] gh H (.refl _ _ _) R trivial
theorem all_zero : AllOk g tbl k 0 where
  E := fun _ _ _ h => by cases h
  K := fun _ _ _ _ _ h => by cases h
  Es := fun _ _ _ h => by cases h
  B := fun _ _ _ _ h => by cases h
  O := fun _ _ _ h => by cases h
  T := fun _ _ _ h => by cases h
  Ts := fun _ _ _ _ h => by cases h
  N := fun _ _ _ h => by cases h
  Cl := fun _ _ _ h => by cases h
  I := fun _ _ _ _ h => by cases h
section
variable {n : Nat} (A : AllOk g tbl k n)
include A
theorem step_Es (Γ : Good g tbl k C X) (es : List Expr) (fs : List (Sm W)) (h : semEs C (n + 1) es = some fs) : PA X es (tWs g (callD tbl k) (evalsR fs)) ∧ PA X es (tWs g (callD tbl k) (evalsA fs)) ∧ PA X es (tDs g (callD tbl k) (evalsD fs)) ∧ es.any isStar = false ∧ fs.length = es.length := by
  cases es with
  | nil =>
    cases h
    exact ⟨pa_nilR, pa_nilA, pa_nilD, rfl, rfl⟩
  | cons e es =>
    have h : (if isStar e then none else match semE C n e, semEs C n es with | some f, some fs => some (f :: fs) | _, _ => none) = some fs := h
    split at h
    · cases h
    · rename_i hs
      have hs : isStar e = false := Bool.eq_false_iff.mpr hs
      split at h
      · rename_i f fs' e1 e2
        cases h
        have p := A.E Γ e f e1
        obtain ⟨a, b, c, d, l⟩ := A.Es Γ es fs' e2
        exact ⟨pa_consR hs p a, pa_consA hs p b, pa_consD hs p c, by rw [List.any_cons, hs, d]; rfl, by rw [List.length_cons, List.length_cons, l]⟩
      · cases h
theorem step_B (Γ : Good g tbl k C X) (op : BoolOp) (es : List Expr) (f : Sm W) (h : semB C (n + 1) op es = some f) (pos : Pos) : PE X (.BoolOp op es pos) (tD g (callD tbl k) f) := by
  cases es with
  | nil => cases h
  | cons e es =>
    cases es with
    | nil => exact pe_one (A.E Γ e f h)
    | cons e' es =>
      have h : (match semE C n e, semB C n op (e' :: es) with | some f, some g => (match (generalizing := false) op with | .And => some (eAnd f g) | .Or => some (eOr f g)) | _, _ => none) = some f := h
      split at h
      · rename_i f1 f2 e1 e2
        have p := A.E Γ e f1 e1
        have q := A.B Γ op (e' :: es) f2 e2 pos
        cases op with
        | And => cases h; exact pe_andD p q
        | Or => cases h; exact pe_orD p q
      · cases h
theorem step_O (Γ : Good g tbl k C X) (o : Option Expr) (l : Option (Sm W)) (h : semO C (n + 1) o = some l) : PO X o (tP g (callD tbl k) (evalPartI l)) := by
  cases o with
  | none => cases h; exact po_noneD
  | some e =>
    have h : (semE C n e).map some = some l := h
    obtain ⟨f, h1, rfl⟩ := Option.map_eq_some_iff.mp h
    exact po_someD (A.E Γ e f h1)
theorem step_Ts (Γ : Good g tbl k C X) (op : BoolOp) (es : List Expr) (t : Sm Bool) (h : semTs C (n + 1) op es = some t) (pos : Pos) : PW X (.BoolOp op es pos) (tB g (callD tbl k) t) := by
  cases es with
  | nil => cases h
  | cons e es =>
    cases es with
    | nil =>
      have p := A.T Γ e t h
      cases op with
      | And => exact pw_and1 p
      | Or => exact pw_or1 p
    | cons e' es =>
      have h : (match semT C n e, semTs C n op (e' :: es) with | some f, some g => (match (generalizing := false) op with | .And => some (tAnd f g) | .Or => some (tOr f g)) | _, _ => none) = some t := h
      split at h
      · rename_i f1 f2 e1 e2
        have p := A.T Γ e f1 e1
        have q := A.Ts Γ op (e' :: es) f2 e2 pos
        cases op with
        | And => cases h; exact PW.to (pw_and p q) fun σ H Q t => t_tand t
        | Or => cases h; exact PW.to (pw_or p q) fun σ H Q t => t_tor t
      · cases h
theorem step_T (Γ : Good g tbl k C X) (e : Expr) (t : Sm Bool) (h : semT C (n + 1) e = some t) : PT X e (tB g (callD tbl k) t) := by
  have plain : plainT e = true → (semE C n e).map tOf = some t → PT X e (tB g (callD tbl k) t) := fun hp h => by
    obtain ⟨f, h1, rfl⟩ := Option.map_eq_some_iff.mp h
    exact pt_ofD Γ.O hp (A.E Γ e f h1)
  cases e with
  | UnaryOp op a p =>
    cases op with
    | Not =>
      have h : (semT C n a).map tNot = some t := h
      obtain ⟨f, h1, rfl⟩ := Option.map_eq_some_iff.mp h
      exact pt_notD (A.T Γ a f h1)
    | _ => exact plain rfl h
  | BoolOp op es pos =>
    have p := A.Ts Γ op es t h pos
    exact ⟨fun pins s σ H Q I hw => p.run _ pins s σ H Q I hw⟩
  | IfExp a b c p => cases h
  | Compare a ops bs p =>
    have h : (match (generalizing := false) ops, bs with
      | [op], [b] => if isSet b then none else match semE C n a, semE C n b with
        | some f, some g => some (tOf (eCmp op f g))
        | _, _ => none
      | [op, op'], [b, c] => if isSet c then none else match semE C n a, semE C n b, semE C n c with
        | some f, some g, some h => some (tOf (eChain op op' f g h))
        | _, _, _ => none
      | _, _ => none) = some t := h
    split at h
    · split at h
      · cases h
      · rename_i hs
        split at h
        · rename_i e1 e2
          cases h
          exact pt_cmpD Γ.O (Bool.eq_false_iff.mpr hs) (A.E Γ _ _ e1) (A.E Γ _ _ e2)
        · cases h
    · split at h
      · cases h
      · rename_i hs
        split at h
        · rename_i e1 e2 e3
          cases h
          exact pt_chainD Γ.O (Bool.eq_false_iff.mpr hs) (A.E Γ _ _ e1) (A.E Γ _ _ e2) (A.E Γ _ _ e3)
        · cases h
    · cases h
  | _ => exact plain rfl h
theorem step_Cl (Γ : Good g tbl k C X) (es : List Expr) (t : Sm Bool) (h : semC C (n + 1) es = some t) : PTs X es (tB g (callD tbl k) t) := by
  cases es with
  | nil =>
    cases h
    refine ⟨fun pins s σ H Q I hw => pts_nil.run pins s σ H Q I ?_⟩
    obtain ⟨ρ, gh, st, w, st', re, R, e, q⟩ := hw
    obtain ⟨rfl, rfl⟩ := pure_ok e
    exact q gh H (.refl _ _ _) R
  | cons e es =>
    cases es with
    | nil => exact pts_one (A.T Γ e t h)
    | cons e' es => cases h
end
end Ev

set_option Elab.async false
set_option linter.all false
set_option maxRecDepth 100000
set_option maxHeartbeats 1000000
/-! The induction over the text: the great steps. -/
namespace Ev
open PySem PySem.Spec PyProof.Rows L2
variable {g : G} {tbl : List FnD} {k : Nat} {C : EC} {X : Cx}
section
variable {n : Nat} (A : AllOk g tbl k n)
include A
theorem step_E (Γ : Good g tbl k C X) (e : Expr) (f : Sm W) (h : semE C (n + 1) e = some f) : PE X e (tD g (callD tbl k) f) := by
  cases e with
  | Constant c j p =>
    have h2 : (constD c).map eD = some f := h
    obtain ⟨d, h1, rfl⟩ := Option.map_eq_some_iff.mp h2
    exact pe_constD h1
  | Name x p =>
    have h2 : (match vis C x with
      | some i => some (eVar i)
      | none => match glob C x with
        | some (.fn i) => some (eFn i)
        | some (.val d) => some (eD d)
        | _ => none) = some f := h
    split at h2
    · rename_i e1
      cases h2
      exact pe_nameD Γ e1
    · split at h2
      · rename_i e1
        cases h2
        exact pe_fnD Γ e1
      · rename_i e1
        cases h2
        exact pe_valD Γ e1
      · cases h2
  | Tuple es j p =>
    have h2 : (match semEs C n es with
      | some fs => if es.length ≤ 1000 then some (eTup fs) else none
      | none => none) = some f := h
    split at h2
    · rename_i fs e1
      obtain ⟨hl, h3⟩ := ite_some h2
      cases h3
      obtain ⟨_, _, a, _, l⟩ := A.Es Γ es fs e1
      exact pe_tupD (by rw [l]; exact hl) a
    · cases h2
  | List es p =>
    have h2 : (semN C n (.List es p)).map eNew = some f := h
    obtain ⟨m, h1, rfl⟩ := Option.map_eq_some_iff.mp h2
    exact Keep.new.pe (A.N Γ _ m h1).1
  | ListComp elt gs sc p =>
    have h2 : (semN C n (.ListComp elt gs sc p)).map eNew = some f := h
    obtain ⟨m, h1, rfl⟩ := Option.map_eq_some_iff.mp h2
    exact Keep.new.pe (A.N Γ _ m h1).1
  | BinOp a op b p =>
    have h2 : (match semE C n a, semE C n b with
      | some f, some g => some (eBin op f g)
      | _, _ => none) = some f := h
    split at h2
    · rename_i e1 e2
      cases h2
      exact pe_binD Γ.O (A.E Γ _ _ e1) (A.E Γ _ _ e2)
    · cases h2
  | UnaryOp op a p =>
    cases op with
    | USub =>
      have h2 : ((semE C n a).map fun f => e1 f negD) = some f := h
      obtain ⟨d, h1, rfl⟩ := Option.map_eq_some_iff.mp h2
      exact pe_negD (A.E Γ _ _ h1)
    | Not =>
      have h2 : (semE C n a).map eNot = some f := h
      obtain ⟨d, h1, rfl⟩ := Option.map_eq_some_iff.mp h2
      exact pe_notD (A.E Γ _ _ h1)
    | _ => cases h
  | BoolOp op es p => exact A.B Γ op es f h p
  | Compare a ops bs p =>
    have h2 : (match (generalizing := false) ops, bs with
      | [op], [b] => if isSet b then none else match semE C n a, semE C n b with
        | some f, some g => some (eCmp op f g)
        | _, _ => none
      | [op, op'], [b, c] => if isSet c then none else match semE C n a, semE C n b, semE C n c with
        | some f, some g, some h => some (eChain op op' f g h)
        | _, _, _ => none
      | _, _ => none) = some f := h
    split at h2
    · split at h2
      · cases h2
      · rename_i hs
        split at h2
        · rename_i e1 e2
          cases h2
          exact pe_cmpD Γ.O (Bool.eq_false_iff.mpr hs) (A.E Γ _ _ e1) (A.E Γ _ _ e2)
        · cases h2
    · split at h2
      · cases h2
      · rename_i hs
        split at h2
        · rename_i e1 e2 e3
          cases h2
          exact pe_chainD Γ.O (Bool.eq_false_iff.mpr hs) (A.E Γ _ _ e1) (A.E Γ _ _ e2) (A.E Γ _ _ e3)
        · cases h2
    · cases h2
  | IfExp t a b p =>
    have h2 : (match semT C n t, semE C n a, semE C n b with
      | some u, some f, some g => some (eIf u f g)
      | _, _, _ => none) = some f := h
    split at h2
    · rename_i e1 e2 e3
      cases h2
      exact pe_ifD (A.T Γ _ _ e1) (A.E Γ _ _ e2) (A.E Γ _ _ e3)
    · cases h2
  | Subscript a b p =>
    have h2 : (match slK b with
      | .plain => match semE C n a, semE C n b with
        | some f, some g => some (eItem f g)
        | _, _ => none
      | .cut lo hi => match semE C n a, semO C n lo, semO C n hi with
        | some f, some l, some u => some (eSlice f l u)
        | _, _, _ => none
      | .back => (semE C n a).map fun f => e1 f backD
      | .bad => none) = some f := h
    split at h2
    · rename_i e0
      split at h2
      · rename_i e1 e2
        cases h2
        exact pe_itemD Γ.O (slK_plain e0) (A.E Γ _ _ e1) (A.E Γ _ _ e2)
      · cases h2
    · rename_i e0
      obtain ⟨p2, rfl⟩ := slK_cut e0
      split at h2
      · rename_i e1 e2 e3
        cases h2
        exact pe_sliceD Γ.O (A.E Γ _ _ e1) (A.O Γ _ _ e2) (A.O Γ _ _ e3)
      · cases h2
    · rename_i e0
      obtain ⟨k, p1, p2, p3, rfl⟩ := slK_back e0
      obtain ⟨d, h1, rfl⟩ := Option.map_eq_some_iff.mp h2
      exact pe_backD Γ.O (A.E Γ _ _ h1)
    · cases h2
  | Call fn args kws p =>
    cases kws with
    | nil => exact A.K Γ fn args p f h
    | cons a b => cases h
  | _ => cases h
theorem step_K (Γ : Good g tbl k C X) (fn : Expr) (args : List Expr) (pos : Pos) (f : Sm W) (h : semK C (n + 1) fn args pos = some f) : PE X (.Call fn args [] pos) (tD g (callD tbl k) f) := by
  cases fn with
  | Name x p =>
    have h2 : (match tyArg C x args with
      | some (a, T) => (semE C n a).map fun f => eBi [f] (isaB T)
      | none => match lenSet C x args with
        | some a => (semE C n a).map fun f => eBi [f] lenSetB
        | none => match semN C n (.Call (.Name x p) args [] pos) with
          | some m => some (eNew m)
          | none => (semEs C n args).bind (callK C x)) = some f := h
    split at h2
    · rename_i a T e1
      obtain ⟨d, h1, rfl⟩ := Option.map_eq_some_iff.mp h2
      obtain ⟨g1, y, p2, b, rfl, g2, g3⟩ := tyArg_ok e1
      have hs : isStar a = false := by
        cases a <;> first | rfl | (cases n <;> cases h1)
      exact pe_isaD Γ.O (bi_at Γ g1) (bi_at Γ g2) (tyOf_val g3) hs (A.E Γ _ _ h1)
    · split at h2
      · rename_i a e1
        obtain ⟨d, h1, rfl⟩ := Option.map_eq_some_iff.mp h2
        obtain ⟨g1, y, p2, q, rfl, g2, hs⟩ := lenSet_ok e1
        exact pe_lenSetD Γ.O (bi_at Γ g1) (bi_at Γ g2) hs (A.E Γ _ _ h1)
      · split at h2
        · rename_i m e1
          cases h2
          exact Keep.new.pe (A.N Γ _ m e1).1
        · obtain ⟨fs, h1, h3⟩ := Option.bind_eq_some_iff.mp h2
          obtain ⟨a, b, c, d, l⟩ := A.Es Γ args fs h1
          unfold callK at h3
          split at h3
          · rename_i j e1
            split at h3
            · cases h3
            · rename_i hne
              cases h3
              exact pe_callV Γ e1 b d fun z => hne (List.eq_nil_of_length_eq_zero (by rw [l, z]; rfl))
          · split at h3
            · rename_i e1
              cases h3
              exact pe_callFn Γ e1 b d l
            · rename_i e1
              split at h3
              · rename_i e2
                cases h3
                exact pe_biD Γ.O (bi_at Γ e1) e2 a l d
              · cases h3
            · cases h3
  | Attribute o m ap =>
    have h2 : (if !baseOk o || !(ap.endLine == pos.line) || !decide (args.length < 20) then none else
      match topIdx C o m args with
      | some (ds, a) => (semE C n a).map fun f => eBi [eD (.tuple ds), f] indexT
      | none => match semE C n o, semEs C n args with
        | some f, some gs => methK m f gs
        | _, _ => none) = some f := h
    split at h2
    · cases h2
    · rename_i hc
      have hc := Bool.eq_false_iff.mpr hc
      rw [Bool.or_eq_false_iff, Bool.or_eq_false_iff, Bool.not_eq_false', Bool.not_eq_false', Bool.not_eq_false', decide_eq_true_eq] at hc
      obtain ⟨⟨hb, hline⟩, hl⟩ := hc
      split at h2
      · rename_i ds a e1
        obtain ⟨f1, h3, rfl⟩ := Option.map_eq_some_iff.mp h2
        unfold topIdx at e1
        split at e1
        · rename_i e2
          obtain ⟨⟨hm, hs⟩, h4⟩ := ite_some e1
          cases h4
          subst hm
          obtain ⟨x, p, rfl, g1⟩ := topTup_ok e2
          obtain ⟨z1, z2, z3⟩ := glob_ok Γ g1
          obtain ⟨v, u, h5, h6, h7, h8⟩ := Γ.gl.val x _ z2
          exact pe_topIdx Γ.O (pe_glob z1 (by rw [Γ.mg]; exact h5) h6 z3) h7 (h8 rfl) hb hline hs (A.E Γ _ _ h3)
        · cases e1
      · split at h2
        · rename_i f1 gs e1 e2
          obtain ⟨a, _, a2, d, l⟩ := A.Es Γ _ _ e2
          have p := A.E Γ _ _ e1
          unfold methK at h2
          split at h2
          · rename_i e3
            split at h2
            · cases h2
            · rename_i hne
              cases h2
              cases args with
              | nil => exact absurd (List.eq_nil_of_length_eq_zero l) hne
              | cons e es => exact PE.to (pe_meth p a hb hline d hl) fun σ H Q t => t_meth Γ.O (met_ok Γ.O e3) t
          · split at h2
            · rename_i e3
              split at h2
              · obtain ⟨hm, h4⟩ := ite_some h2
                cases h4
                subst hm
                cases args with
                | nil =>
                  refine PE.to (pe_bmg0 (name := "pop") p (base_of hb ..) hline) fun σ H Q t => ?_
                  obtain ⟨ρ, gh, st, w, st', re, R, e4, q⟩ := t_mut Γ.O mx_pop t
                  refine ⟨ρ, gh, st, w, st', re, R, e4, fun v gh1 H1 S1 R1 r1 => ?_⟩
                  obtain ⟨T, id, r, mf, ty, ρ2, gh2, st2, ds, st3, re2, R2, e5, q2⟩ := q v gh1 H1 S1 R1 r1
                  obtain ⟨rfl, rfl⟩ := pure_ok e5
                  exact ⟨T, id, r, mf, ty, q2 [] gh2 H1 (.refl _ _ _) R2 .nil⟩
                | cons e es => cases l
              · rename_i hne
                cases h2
                cases args with
                | nil => exact absurd (List.eq_nil_of_length_eq_zero l) hne
                | cons e es => exact PE.to (pe_meth p a2 hb hline d hl) fun σ H Q t => t_mut Γ.O (mut_ok Γ.O e3) t
            · cases h2
        · cases h2
  | _ => cases h
end
end Ev

set_option Elab.async false
set_option linter.all false
set_option maxRecDepth 100000
set_option maxHeartbeats 1000000
/-! The induction over the text: new lists, sources, statements. -/
namespace Ev
open PySem PySem.Spec PyProof.Rows L2
variable {g : G} {tbl : List FnD} {k : Nat} {C : EC} {X : Cx}
/-- swapsWith of a comprehension and a name -/
def swapB (sc : Scope) (csc : Scope) (y : Str) (pl cl : Nat) : Bool := sc.names.lookup y == some .local && pl == cl && !(csc.names.any fun (n, k) => n == y && (k == .local || k == .cell))
theorem swap_is (hk : X.env.scope.kind = .function) {elt : Expr} {gs : List Comprehension} {scope : Scope} {pos py : Pos} {y : Str} {l : Nat} : swapsWith (.ListComp elt gs scope pos) (some (.Name y py)) l X.env = pure (swapB X.env.scope scope y py.line pos.line) := by
  have hb : (X.env.blockKind == .function) = true := by unfold PySem.Env.blockKind; rw [hk]; rfl
  unfold swapsWith
  simp only [hb, Bool.true_and]
  rfl
section
variable {n : Nat} (A : AllOk g tbl k n)
include A
theorem step_I (Γ : Good g tbl k C X) (tg e : Expr) (si : Si) (h : semI C (n + 1) tg e = some si) : PI X tg e (tI g (callD tbl k) si) := by
  have h2 : (match itK C tg e with
    | .range1 a => (semE C n a).map iRange1
    | .range2 a b => match semE C n a, semE C n b with
      | some f, some g => some (iRange2 f g)
      | _, _ => none
    | .zip2 a b => match semE C n a, semE C n b with
      | some f, some g => some (iZip2 f g)
      | _, _ => none
    | .seq => (semE C n e).map iOf) = some si := h
  split at h2
  · rename_i a e0
    obtain ⟨f, h1, rfl⟩ := Option.map_eq_some_iff.mp h2
    unfold itK at e0
    split at e0
    · split at e0
      · rename_i g1 g2
        split at e0
        · cases e0
        · rename_i hs
          cases e0
          have B := bi_at Γ g2
          have hx := (Γ.gl.bi _ _ (glob_ok Γ g2).2.1).1
          subst hx
          exact pi_r1 B.gl B.mg (Bool.eq_false_iff.mpr hs) (A.E Γ _ _ h1)
      · split at e0 <;> cases e0
      · split at e0 <;> cases e0
      · cases e0
    · cases e0
  · rename_i a b e0
    split at h2
    · rename_i f1 f2 e1 e2
      cases h2
      unfold itK at e0
      split at e0
      · split at e0
        · split at e0 <;> cases e0
        · rename_i g1 g2
          split at e0
          · cases e0
          · rename_i hs
            cases e0
            have hs := Bool.eq_false_iff.mpr hs
            rw [Bool.or_eq_false_iff] at hs
            have B := bi_at Γ g2
            have hx := (Γ.gl.bi _ _ (glob_ok Γ g2).2.1).1
            subst hx
            exact pi_r2 B.gl B.mg hs.1 hs.2 (A.E Γ _ _ e1) (A.E Γ _ _ e2)
        · split at e0 <;> cases e0
        · cases e0
      · cases e0
    · cases h2
  · rename_i a b e0
    split at h2
    · rename_i f1 f2 e1 e2
      cases h2
      unfold itK at e0
      split at e0
      · split at e0
        · split at e0 <;> cases e0
        · split at e0 <;> cases e0
        · rename_i g1 g2
          split at e0
          · cases e0
          · rename_i hs
            cases e0
            have hs := Bool.eq_false_iff.mpr hs
            rw [Bool.or_eq_false_iff, Bool.or_eq_false_iff, Bool.not_eq_false'] at hs
            have B := bi_at Γ g2
            have hx := (Γ.gl.bi _ _ (glob_ok Γ g2).2.1).1
            subst hx
            have ht := hs.2
            cases tg <;> first | exact pi_z2 Γ.O B.gl B.mg hs.1.1 hs.1.2 (A.E Γ _ _ e1) (A.E Γ _ _ e2) | cases ht
        · cases e0
      · cases e0
    · cases h2
  · obtain ⟨f, h1, rfl⟩ := Option.map_eq_some_iff.mp h2
    exact pi_of Γ.O (A.E Γ _ _ h1)
theorem step_N (Γ : Good g tbl k C X) (e : Expr) (m : Sm PyData) (h : semN C (n + 1) e = some m) : PE X e (tN g (callD tbl k) m) ∧
    ∀ F, Keep F → ∀ i y py spos, X.N[i]? = some y → Loc X.env.scope y → (X.fn y = true ∨ X.env.scope.names.lookup y = some .local) → PS X (.Assign [.Name y py] e spos) (tS g (callD tbl k) (sSet i (F m))) := by
  have plain : isCompE e = false → PE X e (tN g (callD tbl k) m) → PE X e (tN g (callD tbl k) m) ∧
      ∀ F, Keep F → ∀ i y py spos, X.N[i]? = some y → Loc X.env.scope y → (X.fn y = true ∨ X.env.scope.names.lookup y = some .local) → PS X (.Assign [.Name y py] e spos) (tS g (callD tbl k) (sSet i (F m))) :=
    fun hc p => ⟨p, fun F hF i y py spos h1 h2 h3 => ps_setD (by rw [Γ.N]; exact Γ.nd) h1 h2 h3 (no_swap hc ..) (hF.pe p)⟩
  cases e with
  | List es p =>
    have h2 : (match semEs C n es with
      | some fs => if es.length ≤ 1000 then some (nList fs) else none
      | none => none) = some m := h
    split at h2
    · rename_i fs e1
      obtain ⟨hl, h3⟩ := ite_some h2
      cases h3
      obtain ⟨_, _, a, _, l⟩ := A.Es Γ es fs e1
      exact plain rfl (pe_lstN (by rw [l]; exact hl) a)
    · cases h2
  | Dict ks vs p =>
    cases ks with
    | nil =>
      cases vs with
      | nil =>
        cases h
        exact plain rfl pe_newDict
      | cons a b => cases h
    | cons a b => cases h
  | BinOp a op b p =>
    cases op with
    | Add =>
      have h2 : (match semE C n a, semE C n b with
        | some f, some g => some (nBi [f, g] catB)
        | _, _ => none) = some m := h
      split at h2
      · rename_i e1 e2
        cases h2
        exact plain rfl (pe_catD Γ.O (A.E Γ _ _ e1) (A.E Γ _ _ e2))
      · cases h2
    | _ => cases h
  | Call fn args kws p =>
    cases fn with
    | Name x q =>
      cases kws with
      | nil =>
        exact plain rfl (pe_mkD Γ (fun e f h => A.E Γ e f h) h)
      | cons a b => cases h
    | _ => cases h
  | ListComp elt gs scope p =>
    clear plain
    have h2 : (match (generalizing := false) gs with
      | [⟨tg, it, ifs, 0⟩] => match ownOf C.N scope.names with
        | none => none
        | some own => if L2.blkC C.N C.sc scope own && !isSet it then
            match semI C n tg it, tgtOf (blkCtx C scope own) n tg, semC (blkCtx C scope own) n ifs, semE (blkCtx C scope own) n elt with
            | some si, some t, some c, some f => if (slotsT t).all (own.map (·.2)).contains then some (nComp (own.map (·.2)) si t c f) else none
            | _, _, _, _ => none
          else none
      | _ => none) = some m := h
    split at h2
    · rename_i tg it ifs
      clear h
      split at h2
      · cases h2
      · rename_i own e0
        obtain ⟨hc, h3⟩ := ite_some h2
        rw [Bool.and_eq_true, Bool.not_eq_true'] at hc
        split at h3
        · rename_i si t c f e1 e2 e3 e4
          obtain ⟨hsl, h4⟩ := ite_some h3
          cases h4
          have ok : BlkOk X.N X.env.scope scope own := by
            rw [Γ.N, Γ.sc]
            exact blkOk_by hc.1
          have hN : X.N.Nodup := by rw [Γ.N]; exact Γ.nd
          have hi := A.I Γ tg it si e1
          have hset : ∀ x, foldedSetIterable it X.env x = pure x := by
            have := hc.2
            intro x
            cases it <;> first | rfl | cases this
          have B := fun s H C' cl fp => good_blk (own := own) Γ ok.kind s H C' cl fp
          have hg := fun s H C' cl fp => ((tgt_ok (B s H C' cl fp) n).1 tg t e2).1
          have ht := fun s H C' cl fp => A.Cl (B s H C' cl fp) ifs c e3
          have he := fun s H C' cl fp => A.E (B s H C' cl fp) elt f e4
          have P := PE.to (pe_lc (pos := p) Γ.O.calm hN hi ok hg ht he hset) fun σ H Q t => t_lc hsl t
          refine ⟨P, fun F hF i y py spos h1 h2 h3 => ?_⟩
          have hk : X.env.scope.kind = .function := by rw [Γ.sc]; exact Γ.kind
          cases hw : swapB X.env.scope scope y py.line p.line with
          | false => exact ps_setD hN h1 h2 h3 ((swap_is hk).trans (by rw [hw])) (hF.pe P)
          | true =>
            have hyl : X.env.scope.names.lookup y = some .local := by
              unfold swapB at hw
              rw [Bool.and_eq_true, Bool.and_eq_true] at hw
              exact eq_of_beq hw.1.1
            refine PS.to (ps_setLc Γ.O.calm hN h1 hyl ((swap_is hk).trans (by rw [hw])) hi ok hg ht he hset) fun D σ H t => ?_
            exact t_lc hsl (hF.t (t_set t))
        · cases h3
    · cases h2
  | _ => cases h
theorem step_all : AllOk g tbl k (n + 1) where
  E := fun Γ e f h => step_E A Γ e f h
  K := fun Γ fn args pos f h => step_K A Γ fn args pos f h
  Es := fun Γ es fs h => step_Es A Γ es fs h
  B := fun Γ op es f h pos => step_B A Γ op es f h pos
  O := fun Γ o l h => step_O A Γ o l h
  T := fun Γ e t h => step_T A Γ e t h
  Ts := fun Γ op es t h pos => step_Ts A Γ op es t h pos
  N := fun Γ e m h => step_N A Γ e m h
  Cl := fun Γ es t h => step_Cl A Γ es t h
  I := fun Γ tg e si h => step_I A Γ tg e si h
end
theorem all_ok : ∀ n : Nat, AllOk g tbl k n
  | 0 => all_zero
  | n + 1 => step_all (all_ok n)
end Ev

set_option Elab.async false
set_option linter.all false
set_option maxRecDepth 100000
set_option maxHeartbeats 1000000
/-! The induction over the text: statements, defs. -/
namespace Ev
open PySem PySem.Spec PyProof.Rows L2
variable {g : G} {tbl : List FnD} {k : Nat} {C : EC} {X : Cx}
theorem pe_V (Γ : Good g tbl k C X) {n : Nat} {t e : Expr} {f : Sm W} (h : semV C n t e = some f) : PE X e (tD g (callD tbl k) f) := by
  unfold semV at h
  split at h
  · split at h
    · obtain ⟨m, h1, rfl⟩ := Option.map_eq_some_iff.mp h
      exact Keep.box.pe ((all_ok n).N Γ _ _ h1).1
    · exact (all_ok n).E Γ _ _ h
  · cases h
theorem pa_Vs (Γ : Good g tbl k C X) {n : Nat} : ∀ {ts es : List Expr} {fs : List (Sm W)}, semVs C n ts es = some fs → PA X es (tWs g (callD tbl k) (evalsR fs)) ∧ es.any isStar = false ∧ fs.length = es.length ∧ ts.length = es.length
  | [], [], fs, h => by
    cases h
    exact ⟨pa_nilR, rfl, rfl, rfl⟩
  | [], _ :: _, fs, h => by cases h
  | _ :: _, [], fs, h => by cases h
  | t :: ts, e :: es, fs, h => by
    have h2 : (if isStar e then none else match semV C n t e, semVs C n ts es with
      | some f, some fs => some (f :: fs)
      | _, _ => none) = some fs := h
    split at h2
    · cases h2
    · rename_i hs
      have hs := Bool.eq_false_iff.mpr hs
      split at h2
      · rename_i e1 e2
        cases h2
        obtain ⟨a, b, c, d⟩ := pa_Vs Γ e2
        exact ⟨pa_consR hs (pe_V Γ e1) a, by rw [List.any_cons, hs, b]; rfl, by rw [List.length_cons, List.length_cons, c], by rw [List.length_cons, List.length_cons, d]⟩
      · cases h2
theorem names_ok (Γ : Good g tbl k C X) : ∀ {ts : List Expr} {is : List Nat}, nameSlots C ts = some is → PGs X ts (gNames is) ∧ ts.any isStar = false ∧ is.length = ts.length
  | [], is, h => by
    cases h
    exact ⟨pgs_nil, rfl, rfl⟩
  | e :: ts, is, h => by
    cases e with
    | Name x p =>
      have h2 : (match stor C x, nameSlots C ts with
        | some i, some is => some (i :: is)
        | _, _ => none) = some is := h
      split at h2
      · rename_i e1 e2
        cases h2
        obtain ⟨a, b, c⟩ := names_ok Γ e2
        obtain ⟨d, f, hh⟩ := stor_ok Γ e1
        exact ⟨pgs_cons (pg_name (by rw [Γ.N]; exact Γ.nd) d f hh) a (by rw [isStar_asg rfl]; rfl), b, by rw [List.length_cons, List.length_cons, c]⟩
      · cases h2
    | _ => cases h
theorem ite_cases {α : Type} {c : Bool} {x y : Option α} {r : α} (h : (if c = true then x else y) = some r) : (c = true ∧ x = some r) ∨ (c = false ∧ y = some r) := by
  cases c with
  | true => exact .inl ⟨rfl, h⟩
  | false => exact .inr ⟨rfl, h⟩
theorem swP_some {sc : Scope} {ts vs : List Expr} {names : List Str} (h : swP sc ts vs = some (some names)) : (ts.length = 2 ∨ ts.length = 3) ∧ names = swNames sc ts ∧ names.length = ts.length := by
  unfold swP at h
  rcases ite_cases h with ⟨_, h⟩ | ⟨c1, h⟩
  · cases h
  rcases ite_cases h with ⟨_, h⟩ | ⟨c2, h⟩
  · cases h
  rcases ite_cases h with ⟨_, h⟩ | ⟨c3, h⟩
  · cases h
  rcases ite_cases h with ⟨_, h⟩ | ⟨c4, h⟩
  · cases h
  rcases ite_cases h with ⟨_, h⟩ | ⟨c5, h⟩
  · cases h
  cases h
  rw [Bool.or_eq_false_iff] at c1 c3
  refine ⟨?_, rfl, ?_⟩
  · have := c1.1
    simp only [Bool.not_eq_false', Bool.or_eq_true, beq_iff_eq] at this
    exact this
  · have := c3.1
    simpa using this
theorem sw2 {sc : Scope} {x y : Str} {px py : Pos} (h : (swNames sc [.Name x px, .Name y py]).length = 2) : swNames sc [.Name x px, .Name y py] = [x, y] ∧ sc.names.lookup x = some .local ∧ sc.names.lookup y = some .local := by
  unfold swNames at h ⊢
  simp only [List.filterMap_cons, List.filterMap_nil] at h ⊢
  by_cases c1 : (sc.names.lookup x == some .local && px.line == (([Expr.Name x px, .Name y py].head?.map (·.pos.line)).getD 0)) = true
  · by_cases c2 : (sc.names.lookup y == some .local && py.line == (([Expr.Name x px, .Name y py].head?.map (·.pos.line)).getD 0)) = true
    · rw [if_pos c1, if_pos c2]
      rw [Bool.and_eq_true] at c1 c2
      exact ⟨rfl, eq_of_beq c1.1, eq_of_beq c2.1⟩
    · rw [if_pos c1, if_neg c2] at h
      cases h
  · rw [if_neg c1] at h
    by_cases c2 : (sc.names.lookup y == some .local && py.line == (([Expr.Name x px, .Name y py].head?.map (·.pos.line)).getD 0)) = true
    · rw [if_pos c2] at h
      cases h
    · rw [if_neg c2] at h
      cases h
theorem sw3 {sc : Scope} {x y z : Str} {px py pz : Pos} (h : (swNames sc [.Name x px, .Name y py, .Name z pz]).length = 3) : swNames sc [.Name x px, .Name y py, .Name z pz] = [x, y, z] ∧ sc.names.lookup x = some .local ∧ sc.names.lookup y = some .local ∧ sc.names.lookup z = some .local := by
  unfold swNames at h ⊢
  simp only [List.filterMap_cons, List.filterMap_nil] at h ⊢
  by_cases c1 : (sc.names.lookup x == some .local && px.line == (([Expr.Name x px, .Name y py, .Name z pz].head?.map (·.pos.line)).getD 0)) = true <;>
  by_cases c2 : (sc.names.lookup y == some .local && py.line == (([Expr.Name x px, .Name y py, .Name z pz].head?.map (·.pos.line)).getD 0)) = true <;>
  by_cases c3 : (sc.names.lookup z == some .local && pz.line == (([Expr.Name x px, .Name y py, .Name z pz].head?.map (·.pos.line)).getD 0)) = true <;>
  first
  | (rw [if_pos c1, if_pos c2, if_pos c3]
     rw [Bool.and_eq_true] at c1 c2 c3
     exact ⟨rfl, eq_of_beq c1.1, eq_of_beq c2.1, eq_of_beq c3.1⟩)
  | (simp only [c1, c2, c3] at h
     cases h)
theorem nameSlots_cons {e : Expr} {ts : List Expr} {is : List Nat} (h : nameSlots C (e :: ts) = some is) : ∃ x p i js, e = .Name x p ∧ stor C x = some i ∧ nameSlots C ts = some js ∧ is = i :: js := by
  cases e with
  | Name x p =>
    have h2 : (match stor C x, nameSlots C ts with
      | some i, some is => some (i :: is)
      | _, _ => none) = some is := h
    split at h2
    · rename_i e1 e2
      cases h2
      exact ⟨x, p, _, _, rfl, e1, e2, rfl⟩
    · cases h2
  | _ => cases h
theorem ps_parD (Γ : Good g tbl k C X) {ts es : List Expr} {is : List Nat} {fs : List (Sm W)} {n : Nat} {r : Option (List Str)} {j j2 : Nat} {p p2 pos : Pos} (h1 : nameSlots C ts = some is) (h2 : semVs C n ts es = some fs) (h3 : swP C.sc ts es = some r) (hl : is.length = fs.length) (hz : fs.length ≤ 1000) (hd : is.Nodup) :
    PS X (.Assign [.Tuple ts j p] (.Tuple es j2 p2) pos) (tS g (callD tbl k) (sPar is fs)) := by
  obtain ⟨a, b, c, d⟩ := pa_Vs Γ h2
  obtain ⟨a2, b2, c2⟩ := names_ok Γ h1
  have hN : X.N.Nodup := by rw [Γ.N]; exact Γ.nd
  have hk : X.env.scope.kind = .function := by rw [Γ.sc]; exact Γ.kind
  have hw := swP_ok (k := j) (k2 := j2) (p := p) (p2 := p2) Γ.sc hk h3
  cases r with
  | none =>
    refine PS.to (ps_asg (pe_tup a) (pg_tup (n := fs.length) Γ.O.calm a2 ?_ (asg_facts b2).2) (hs := sole_no rfl _ _ _) hw (by rw [isStar_asg rfl]; rfl)) fun D σ H t => t_parN Γ.O hl rfl hz t
    rw [(asg_facts b2).1, c, d]
  | some names =>
    obtain ⟨hlen, e1, e2⟩ := swP_some h3
    subst e1
    rcases hlen with hlen | hlen
    · match ts, es, fs, hlen, d, c, h1, a, e2, hw, hl with
      | [t1, t2], [v1, v2], [f1, f2], _, _, _, h1, a, e2, hw, _ =>
        obtain ⟨x, px, i, js, rfl, s1, n1, rfl⟩ := nameSlots_cons h1
        obtain ⟨y, py, i2, js2, rfl, s2, n2, rfl⟩ := nameSlots_cons n1
        cases n2
        obtain ⟨q1, q2, q3⟩ := sw2 e2
        rw [q1] at hw
        obtain ⟨z1, z2, z3⟩ := stor_ok Γ s1
        obtain ⟨y1, y2, y3⟩ := stor_ok Γ s2
        have hij : i ≠ i2 := fun e => by
          rw [List.nodup_cons] at hd
          exact hd.1 (by rw [e]; exact List.mem_cons_self)
        exact PS.to (ps_par Γ.O.calm hN z1 y1 hij (by rw [Γ.sc]; exact q2) (by rw [Γ.sc]; exact q3) a hw (sole_no rfl _ _ _)) fun D σ H t => t_par2 t
    · match ts, es, fs, hlen, d, c, h1, a, e2, hw, hl with
      | [t1, t2, t3], [v1, v2, v3], [f1, f2, f3], _, _, _, h1, a, e2, hw, _ =>
        obtain ⟨x, px, i, js, rfl, s1, n1, rfl⟩ := nameSlots_cons h1
        obtain ⟨y, py, i2, js2, rfl, s2, n2, rfl⟩ := nameSlots_cons n1
        obtain ⟨z, pz, i3, js3, rfl, s3, n3, rfl⟩ := nameSlots_cons n2
        cases n3
        obtain ⟨q1, q2, q3, q4⟩ := sw3 e2
        rw [q1] at hw
        obtain ⟨z1, z2, z3⟩ := stor_ok Γ s1
        obtain ⟨y1, y2, y3⟩ := stor_ok Γ s2
        obtain ⟨u1, u2, u3⟩ := stor_ok Γ s3
        rw [List.nodup_cons, List.nodup_cons] at hd
        have hij : i ≠ i2 := fun e => hd.1 (by rw [e]; exact List.mem_cons_self)
        have hil : i ≠ i3 := fun e => hd.1 (by rw [e]; exact List.mem_cons_of_mem _ List.mem_cons_self)
        have hjl : i2 ≠ i3 := fun e => hd.2.1 (by rw [e]; exact List.mem_cons_self)
        exact PS.to (ps_par3 Γ.O.calm hN z1 y1 u1 hij hil hjl (by rw [Γ.sc]; exact q2) (by rw [Γ.sc]; exact q3) (by rw [Γ.sc]; exact q4) a hw (sole_no rfl _ _ _)) fun D σ H t => t_par3 t
/-- statements with fuel n -/
structure StOk (g : G) (tbl : List FnD) (k n : Nat) : Prop where
  S : ∀ {C X}, Good g tbl k C X → ∀ s f, semS C n s = some f → PS X s (tS g (callD tbl k) f)
  Ss : ∀ {C X}, Good g tbl k C X → ∀ s f, semSs C n s = some f → PSs X s (tS g (callD tbl k) f)
theorem ps_nameD (Γ : Good g tbl k C X) {n : Nat} {x : Str} {p pos : Pos} {e : Expr} {i : Nat} {f : Sm W} (h1 : stor C x = some i) (h2 : semV C n (.Name x p) e = some f) : PS X (.Assign [.Name x p] e pos) (tS g (callD tbl k) (sSet i f)) := by
  obtain ⟨z1, z2, z3⟩ := stor_ok Γ h1
  have hN : X.N.Nodup := by rw [Γ.N]; exact Γ.nd
  cases hc : isCompE e with
  | false => exact ps_setD hN z1 z2 z3 (no_swap hc ..) (pe_V Γ h2)
  | true =>
    have h3 : (if C.bx.contains x then (semN C n e).map eBox else semE C n e) = some f := h2
    split at h3
    · obtain ⟨m, h4, rfl⟩ := Option.map_eq_some_iff.mp h3
      exact ((all_ok n).N Γ _ _ h4).2 _ .box i x p pos z1 z2 z3
    · cases e <;> first | cases hc | skip
      · cases n with
        | zero => cases h3
        | succ n =>
          obtain ⟨m, h4, rfl⟩ := Option.map_eq_some_iff.mp (show (semN C n _).map eNew = some f from h3)
          exact ((all_ok n).N Γ _ _ h4).2 _ .new i x p pos z1 z2 z3
      · cases n <;> cases h3
      · cases n <;> cases h3
theorem isStr_ok {e : Expr} (h : isStrE e = true) : ∃ x j p, e = .Constant (.str x) j p := by
  unfold isStrE at h
  split at h
  · exact ⟨_, _, _, rfl⟩
  · cases h
theorem asg_arm {ts es : List Expr} {j : Nat} {p : Pos} : True := trivial
theorem stepS_S {n : Nat} (A : StOk g tbl k n) (Γ : Good g tbl k C X) (s : Stmt) (f : Ss) (h : semS C (n + 1) s = some f) : PS X s (tS g (callD tbl k) f) := by
  have E := (all_ok (g := g) (tbl := tbl) (k := k) n)
  cases s with
  | Pass p => cases h; exact ps_passD
  | Break p => cases h; exact ps_breakD
  | Continue p => cases h; exact ps_contD
  | Raise a b p => cases h; exact ps_noD
  | Return o p =>
    cases o with
    | none => cases h; exact ps_retND
    | some e =>
      have h2 : (match C.rb, semN C n e with
        | true, some f => some (sRet (eBox f))
        | _, _ => (semE C n e).map sRet) = some f := h
      split at h2
      · rename_i m _ e1
        cases h2
        exact ps_retD (Keep.box.pe (E.N Γ _ _ e1).1)
      · obtain ⟨m, h1, rfl⟩ := Option.map_eq_some_iff.mp h2
        exact ps_retD (E.E Γ _ _ h1)
  | Expr e p =>
    have h2 : (if isStrE e then some sNext else if isCompE e then none else (semE C n e).map sDrop) = some f := h
    split at h2
    · rename_i hs
      obtain ⟨x, j, q, rfl⟩ := isStr_ok hs
      cases h2
      exact ps_docD
    · split at h2
      · cases h2
      · rename_i hc
        obtain ⟨m, h1, rfl⟩ := Option.map_eq_some_iff.mp h2
        exact ps_dropD (Bool.eq_false_iff.mpr hc) (E.E Γ _ _ h1)
  | If t a b p =>
    have h2 : (match semT C n t, semSs C n a, semSs C n b with
      | some u, some f, some g => some (sIf u f g)
      | _, _, _ => none) = some f := h
    split at h2
    · rename_i e1 e2 e3
      cases h2
      exact ps_ifD (E.T Γ _ _ e1) (A.Ss Γ _ _ e2) (A.Ss Γ _ _ e3)
    · cases h2
  | While t a b p =>
    cases b with
    | nil =>
      have h2 : (match semT C n t, semSs C n a with
        | some u, some f => some (sWhile u f)
        | _, _ => none) = some f := h
      split at h2
      · rename_i e1 e2
        cases h2
        exact ps_whileD (passes Γ) (E.T Γ _ _ e1) (A.Ss Γ _ _ e2)
      · cases h2
    | cons x y => cases h
  | For tg it a b p =>
    cases b with
    | nil =>
      have h2 : (if isSet it then none else match tgtOf C n tg, semI C n tg it, semSs C n a with
        | some t, some si, some f => some (sFor t si f)
        | _, _, _ => none) = some f := h
      split at h2
      · cases h2
      · rename_i hs
        split at h2
        · rename_i e1 e2 e3
          cases h2
          exact ps_forD Γ.O (passes Γ) (Bool.eq_false_iff.mpr hs) (E.I Γ _ _ _ e2) ((tgt_ok Γ n).1 _ _ e1).1 (A.Ss Γ _ _ e3)
        · cases h2
    | cons x y => cases h
  | Assign ts e p =>
    cases ts with
    | nil => cases h
    | cons t ts =>
      cases ts with
      | cons a b => cases h
      | nil =>
        cases t with
        | Name x q =>
          have h2 : (match stor C x, semV C n (.Name x q) e with
            | some i, some f => some (sSet i f)
            | _, _ => none) = some f := h
          split at h2
          · rename_i e1 e2
            cases h2
            exact ps_nameD Γ e1 e2
          · cases h2
        | Subscript o i q =>
          have h2 : (if isCompE e || isSlice e || isSlice i then none else match semE C n o, semE C n i, semE C n e with
            | some f, some g, some h => some (sPut f g h)
            | _, _, _ => none) = some f := h
          split at h2
          · cases h2
          · rename_i hc
            have hc := Bool.eq_false_iff.mpr hc
            rw [Bool.or_eq_false_iff, Bool.or_eq_false_iff] at hc
            split at h2
            · rename_i e1 e2 e3
              cases h2
              exact ps_putD Γ.O hc.2 hc.1.1 (E.E Γ _ _ e1) (E.E Γ _ _ e2) (E.E Γ _ _ e3)
            · cases h2
        | Tuple ts j q =>
          have gen : (match tgtOf C n (.Tuple ts j q), semE C n e with
            | some t, some f => if isCompE e then none else some (sAsg t f)
            | _, _ => none) = some f → swappedStores [.Tuple ts j q] e X.env = pure none → PS X (.Assign [.Tuple ts j q] e p) (tS g (callD tbl k) f) := fun h2 hw => by
            split at h2
            · rename_i e1 e2
              split at h2
              · cases h2
              · rename_i hc
                cases h2
                exact ps_asgD (sole_no (Bool.eq_false_iff.mpr hc) _ _ _) hw rfl ((tgt_ok Γ n).1 _ _ e1).1 (E.E Γ _ _ e2)
            · cases h2
          cases e with
          | Tuple es j2 q2 =>
            have h2 : (match nameSlots C ts, semVs C n ts es, swP C.sc ts es with
              | some is, some fs, some _ => if is.length = fs.length ∧ fs.length ≤ 1000 ∧ is.Nodup then some (sPar is fs) else none
              | _, _, _ => none) = some f := h
            split at h2
            · rename_i e1 e2 e3
              obtain ⟨⟨h3, h4, h5⟩, h6⟩ := ite_some h2
              cases h6
              exact ps_parD Γ e1 e2 e3 h3 h4 h5
            · cases h2
          | _ => exact gen h rfl
        | _ => cases h
  | _ => cases h
theorem st_ok : ∀ n : Nat, StOk g tbl k n
  | 0 => ⟨(fun _ _ _ h => by cases h), (fun _ _ _ h => by cases h)⟩
  | n + 1 => ⟨fun Γ s f h => stepS_S (st_ok n) Γ s f h, fun {C X} Γ ss f h => by
    cases ss with
    | nil => cases h; exact pss_nilD
    | cons s ss =>
      have h2 : (match semS C n s, semSs C n ss with
        | some f, some g => some (sSeq f g)
        | _, _ => none) = some f := h
      split at h2
      · rename_i e1 e2
        cases h2
        exact pss_consD ((st_ok n).S Γ _ _ e1) ((st_ok n).Ss Γ _ _ e2)
      · cases h2⟩
end Ev

set_option Elab.async false
set_option linter.all false
set_option maxRecDepth 100000
set_option maxHeartbeats 1000000
/-! Defs keep their promises. -/
namespace Ev
open PySem PySem.Spec PyProof.Rows L2
variable {g : G} {tbl : List FnD} {k : Nat} {C : EC} {X : Cx}
theorem Rep.take {gh : Gh} {st : Store} {H : Hp} (R : Rep g gh st H) (n : Nat) : Rep g ⟨gh.F, gh.ad.take n⟩ (st.take n) H := by
  refine ⟨R.sub, by rw [List.length_take, List.length_take, R.len], R.nd.sublist (List.take_sublist _ _), fun m c a h1 h2 => ?_⟩
  have hm : m < n := by
    have := (List.getElem?_eq_some_iff.mp h1).1
    rw [List.length_take] at this
    omega
  rw [List.getElem?_take_of_lt hm] at h1
  have h2 : (gh.ad.take n)[m]? = some a := h2
  rw [List.getElem?_take_of_lt hm] at h2
  exact R.cell m c a h1 h2
theorem Stp.take {gh gh' : Gh} {st st' : Store} {H H' : Hp} (R : Rep g gh st H) (S : Stp gh gh' st st' H H') : Stp gh ⟨gh'.F, gh'.ad.take st.length⟩ st (st'.take st.length) H H' := by
  obtain ⟨m, e⟩ := S.ad
  have e2 : gh'.ad.take st.length = gh.ad := by rw [e, ← R.len, List.take_left]
  refine ⟨S.F, ⟨[], by rw [List.append_nil]; exact e2⟩, S.keep, S.newF, fun a o _ h => ?_, fun n c h q => ?_⟩
  · show a ∉ gh'.ad.take st.length
    rw [e2]
    exact h
  · obtain ⟨c', h1, h2⟩ := S.nl n c h q
    exact ⟨c', by rw [List.getElem?_take_of_lt (List.getElem?_eq_some_iff.mp h).1]; exact h1, h2⟩
/-- a def of the text with its reading -/
structure DefIs (g : G) (tbl : List FnD) (gl : List (Str × Gk)) (i : Nat) (fd : FnD) : Prop where
  ex : ∃ (st : Stmt) (C : EC) (ps : List Str) (x : Str) (d : FuncData) (fuel : Nat), Fun g.K x x st (g.at_ i) d ∧ Binds g.K d ps [] ∧ FnScope C.N ps (defScope st) ∧ C.sc = defScope st ∧ C.gl = gl ∧ C.fn = (fun _ => true) ∧
    semSs C fuel (defBody st) = some fd.body ∧ fd.np = ps.length ∧ fd.ns = C.N.length
theorem re_start {gh : Gh} {ws : List W} {vs : List V} (r : RWs g gh ws vs) (n : Nat) : RE g gh (ws.map some ++ List.replicate (n - ws.length) none) (vs.map some ++ List.replicate (n - vs.length) none) := by
  have hl := r.len
  refine ⟨by simp [hl], fun i w h => ?_⟩
  by_cases hi : i < ws.length
  · rw [List.getElem?_append_left (by simpa using hi), List.getElem?_map] at h
    cases hw : ws[i]? with
    | none => rw [hw] at h; cases h
    | some w' =>
      rw [hw] at h
      cases h
      obtain ⟨v, h1, h2⟩ := r.get hw
      refine ⟨v, ?_, h2⟩
      rw [List.getElem?_append_left (by rw [List.length_map, ← hl]; exact hi), List.getElem?_map, h1]
      rfl
  · rw [List.getElem?_append_right (by simpa using Nat.le_of_not_lt hi), List.getElem?_replicate] at h
    split at h <;> cases h
theorem fn_core {gl' : List (Str × Gk)} (hgl : GlOk g gl' tbl) {i : Nat} {fd : FnD} (hi : tbl[i]? = some fd) (IH : DefsOk g tbl k) {st : Stmt} {C : EC} {ps : List Str} {x : Str} {d : FuncData} {fuel : Nat} (F : Fun g.K x x st (g.at_ i) d) (hs : FnScope C.N ps (defScope st)) (h1 : C.sc = defScope st) (h2 : C.gl = gl') (h3 : C.fn = (fun _ => true))
    (h4 : semSs C fuel (defBody st) = some fd.body) (h5 : fd.np = ps.length) (h6 : fd.ns = C.N.length) : FnOk g.P g.w g.K g.mg g.base CX0 (k + 1) (g.at_ i) d ps (spD g tbl (k + 1) i) := by
  have run : ∀ {ws : List W} {s0 s1 : Store} {w : W}, callD tbl (k + 1) i ws s0 = .ok w s1 → runFn fd (callD tbl k) ws s0 = .ok w s1 := fun {ws s0 s1 w} e => by
    simp only [callD, hi] at e
    exact e
  refine F.ok hs (fun vs H Q E h => ?_) (fun cdv A outer s H vs Q E hr h => ?_)
  · obtain ⟨gh, s0, ws, w, s1, R, r, e, q⟩ := h
    have e := run e
    unfold runFn at e
    split at e
    · rename_i hl
      rw [← r.len, hl, h5]
    · cases e
  · obtain ⟨gh, s0, ws, w, s1, R, r, e, q⟩ := h
    have e := run e
    unfold runFn at e
    split at e
    · rename_i hl
      have Γ : Good g tbl k C (cxOf CX0 g.P g.w g.K g.mg g.base C.N x (defScope st) (g.at_ i) cdv A outer s H E).nox :=
        ⟨⟨rfl, rfl, rfl, hr.units, rfl⟩, rfl, rfl, h2 ▸ hgl, IH, rfl, hs.nd, h1.symm, by rw [h1]; exact hs.kind, rfl, hr, h3.symm⟩
      refine ⟨_, (st_ok fuel).Ss Γ _ _ h4, ?_⟩
      split at e
      · rename_i fl ρ' st' e2
        rw [h6] at e2
        refine ⟨_, gh, s0, (fl, ρ'), st', re_start r _, R, e2, fun σ' gh' H' S' R' re' => ?_⟩
        have fin : ∀ {gh2 : Gh} {st2 : Store} {w2 : W}, Stp gh gh2 s0 st2 H H' → Rep g gh2 st2 H' → w = w2 → s1 = st2 → ∀ v, RW g gh2 w2 v → Q v H' := fun {gh2 st2 w2} S2 R2 ew es v rv => by
          subst ew es
          exact q v gh2 H' S2 R2 rv
        cases fl with
        | nx =>
          cases e
          exact fin (S'.take R) (R'.take _) rfl rfl .non .non
        | brk => cases e
        | cont => cases e
        | ret w1 =>
          intro v rv
          have box : ∀ (hw : ∀ j, w1 ≠ .fn j), (match fd.boxr with
              | true => Out.ok w1 st'
              | false => match toD w1 st' with
                | .ok x st' => .ok (.d x) (st'.take s0.length)
                | _ => .no) = Out.ok w s1 → Q v H' := fun hw e => by
            split at e
            · cases e
              exact fin S' R' rfl rfl v rv
            · split at e
              · rename_i y st2 e3
                cases e
                obtain ⟨gh2, S2, R2, d2⟩ := toD_ok R' rv e3
                exact fin ((S'.trans R R' S2).take R) (R2.take _) rfl rfl v d2
              · cases e
          cases w1 with
          | fn j =>
            cases e
            exact fin (S'.take R) (R'.take _) rfl rfl v rv
          | d y => exact box (fun j z => by cases z) e
          | bx j => exact box (fun j z => by cases z) e
      · cases e
      · cases e
    · cases e
theorem fn_ok {gl' : List (Str × Gk)} (hgl : GlOk g gl' tbl) {i : Nat} {fd : FnD} (hi : tbl[i]? = some fd) (D : DefIs g tbl gl' i fd) (IH : DefsOk g tbl k) : ∃ (d : FuncData) (ps : List Str), FnOk g.P g.w g.K g.mg g.base CX0 (k + 1) (g.at_ i) d ps (spD g tbl (k + 1) i) ∧ DefAt g i d ps := by
  obtain ⟨st, C, ps, x, d, fuel, F, hb, hs, h1, h2, h3, h4, h5, h6⟩ := D.ex
  exact ⟨d, ps, fn_core hgl hi IH F hs h1 h2 h3 h4 h5 h6, F.kp, hb⟩
theorem defs_ok {gl' : List (Str × Gk)} (hgl : GlOk g gl' tbl) (D : ∀ i fd, tbl[i]? = some fd → DefIs g tbl gl' i fd) : ∀ k, DefsOk g tbl k
  | 0 => fun i fd hi => by
    obtain ⟨st, C, ps, x, d, fuel, F, hb, _⟩ := (D i fd hi).ex
    refine ⟨d, ps, ⟨fun vs H Q E h => ?_, fun A outer s H args us vs Q E _ _ _ _ h => ?_⟩, F.kp, hb⟩
    · obtain ⟨gh, s0, ws, w, s1, R, r, e, q⟩ := h
      cases e
    · obtain ⟨gh, s0, ws, w, s1, R, r, e, q⟩ := h
      cases e
  | k + 1 => fun i fd hi => fn_ok hgl hi (D i fd hi) (defs_ok hgl D k)
/-! ### the law -/
def spLaw (K : PySem.W.Frag) : Sp := fun vs H Q _ => ∃ (a : Addr) (ns : List Int), vs = [.ref a] ∧ SqL K H a (ns.map V.int) ∧ ns.length ≤ 63 ∧ ∀ v H', v = .bl true → Q v H'
theorem ints_dp {K : PySem.W.Frag} {F : Hp} : ∀ ns : List Int, DpAll K F (ns.map V.int) (ns.map PyData.int)
  | [] => .nil
  | n :: ns => .cons (.int n) (ints_dp ns)
theorem law_imp {P : Program} {w : World} {K : PySem.W.Frag} {mg : Str → Option Value} {base : Heap} {f : Addr} {d : FuncData} {ps : List Str} {li : Nat} (at_ : Nat → Addr)
    (F : FnOk P w K mg base CX0 k f d ps (spD ⟨P, w, K, mg, base, at_⟩ tbl k li)) (math : ∀ ns : List Int, ns.length ≤ 63 → ∃ st', callD tbl k li [.d (.list (ns.map .int))] [] = .ok (.d (.bool true)) st') : FnOk P w K mg base CX0 k f d ps (spLaw K) := by
  refine F.imp fun vs H Q E h => ?_
  obtain ⟨a, ns, rfl, hs, hl, q⟩ := h
  obtain ⟨st', e⟩ := math ns hl
  refine ⟨⟨H, []⟩, [], [.d (.list (ns.map .int))], _, st', ⟨.refl _, rfl, .nil, fun n c a h => by simp at h⟩, ⟨.lst hs (ints_dp ns), trivial⟩, e, fun v gh' H' S R r => ?_⟩
  refine q v H' ?_
  have r : Dp K gh'.F v (.bool true) := r
  cases r
  rfl
end Ev

set_option Elab.async false
set_option linter.all false
set_option maxRecDepth 100000
set_option maxHeartbeats 1000000
/-! For the end of a law. -/
namespace Ev
open PySem PySem.Spec PyProof.Rows L2
variable {g : G} {tbl : List FnD} {k : Nat}
def GlP (g : G) (p : Str × Gk) : Prop := match p.2 with
  | .fn i => g.mg p.1 = some (.ref (g.at_ i))
  | .val d => ∃ v u, g.mg p.1 = some u ∧ RelV v u ∧ (∀ F, Dp g.K F v d) ∧ (isTup d = true → ∃ a o, v = .ref a ∧ g.K.lookup a = some o ∧ o.cls = .type "tuple" ∧ o.dict = none)
  | .bi b => p.1 = biName b ∧ g.mg p.1 = none
def GlAll (g : G) : List (Str × Gk) → Prop
  | [] => True
  | p :: r => GlP g p ∧ GlAll g r
theorem gl_at {gl : List (Str × Gk)} (h : GlAll g gl) : ∀ {x : Str} {q : Gk}, gl.lookup x = some q → GlP g (x, q) := by
  induction gl with
  | nil => intro x q e; cases e
  | cons p r ih =>
    intro x q e
    obtain ⟨y, z⟩ := p
    rw [List.lookup_cons] at e
    cases hy : x == y with
    | true =>
      rw [hy] at e
      have e1 : z = q := Option.some.inj e
      have e2 : x = y := eq_of_beq hy
      rw [← e1, e2]
      exact h.1
    | false =>
      rw [hy] at e
      exact ih h.2 e
theorem gl_ok {gl : List (Str × Gk)} (h : GlAll g gl) : GlOk g gl tbl :=
  ⟨fun x i e => gl_at h e, fun x d e => gl_at h e, fun x b e => gl_at h e⟩
def AtAll (P : Nat → FnD → Prop) : Nat → List FnD → Prop
  | _, [] => True
  | n, f :: r => P n f ∧ AtAll P (n + 1) r
theorem at_from {P : Nat → FnD → Prop} : ∀ {l : List FnD} {n : Nat}, AtAll P n l → ∀ {i : Nat} {f : FnD}, l[i]? = some f → P (n + i) f
  | [], _, _, _, _, h => by simp at h
  | f :: r, n, ⟨a, b⟩, 0, f', h => by
    have e : f = f' := by simpa using h
    rw [← e]
    exact a
  | f :: r, n, ⟨a, b⟩, i + 1, f', h => by
    have := at_from b (i := i) (f := f') (by simpa using h)
    rwa [show n + (i + 1) = n + 1 + i by omega]
theorem at_all {P : Nat → FnD → Prop} {l : List FnD} (h : AtAll P 0 l) : ∀ i f, l[i]? = some f → P i f := fun i f e => by
  have := at_from h e
  rwa [Nat.zero_add] at this
theorem def_is {gl : List (Str × Gk)} {i : Nat} {fd : FnD} {st : Stmt} {C : EC} {ps : List Str} {x : Str} {f : Addr} {d : FuncData} (F : Fun g.K x x st f d) (hf : f = g.at_ i)
    (hb : ∀ (kV doc pm : Value) (an : Option Addr) (cdv ct : Value) (us : List Value), us.length = ps.length → bindArgs (PySem.W.fnOf x x (defArgs st) (defBody st) (defScope st) .none kV doc pm an cdv ct) ⟨us, []⟩ = pure (ps.zip us)) (hs : FnScope C.N ps (defScope st)) (h1 : C.sc = defScope st) (h2 : C.gl = gl) (h3 : C.fn = (fun _ => true))
    (h4 : (semSs C 60 (defBody st)).isSome = true) (h5 : fd.body = (semSs C 60 (defBody st)).getD sNo) (h6 : fd.np = ps.length) (h7 : fd.ns = C.N.length) : DefIs g tbl gl i fd := by
  subst hf
  refine ⟨st, C, ps, x, d, 60, F, F.binds hb, hs, h1, h2, h3, ?_, h6, h7⟩
  rw [h5]
  cases e : semSs C 60 (defBody st) with
  | none => rw [e] at h4; cases h4
  | some m => rfl
theorem sem_is {C : EC} {st : Stmt} {m : Ss} (h4 : (semSs C 60 (defBody st)).isSome = true) (h5 : m = (semSs C 60 (defBody st)).getD sNo) : semSs C 60 (defBody st) = some m := by
  rw [h5]
  cases e : semSs C 60 (defBody st) with
  | none => rw [e] at h4; cases h4
  | some m => rfl
end Ev

set_option maxHeartbeats 4000000
namespace Law
open PySem PySem.Spec PyProof.Rows L2 Ev

def gp (s : String) (k : Gk) : Str × Gk := (Str.ofString s, k)
def topS (i : Nat) : Stmt := PySem.Challenge.pw_truthtold_k81_whole_rounds_of_nets.main.body.getD i (.Pass ⟨0, 0, 0, 0⟩)
def gl : List (Str × Gk) := [gp "is_integer" (.fn 0),
  gp "is_whole" (.fn 1),
  gp "is_tuple_of" (.fn 2),
  gp "is_word" (.fn 3),
  gp "fits_function" (.fn 4),
  gp "count_in" (.fn 5),
  gp "fits_row" (.fn 6),
  gp "rows_in" (.fn 7),
  gp "number_in" (.fn 8),
  gp "answer_in" (.fn 9),
  gp "fits_net" (.fn 10),
  gp "need_net" (.fn 11),
  gp "need_row_of" (.fn 12),
  gp "step_in" (.fn 13),
  gp "steps_from" (.fn 14),
  gp "from_least" (.fn 15),
  gp "next_row" (.fn 16),
  gp "tail_length" (.fn 17),
  gp "round_from" (.fn 18),
  gp "rounds_in" (.fn 19),
  gp "all_rounds" (.fn 20),
  gp "still_rows" (.fn 21),
  gp "garden_rows" (.fn 22),
  gp "lots_of_rounds" (.fn 23),
  gp "longest_tail" (.fn 24),
  gp "_law_cup" (.fn 25),
  gp "_law_roll" (.fn 26),
  gp "_law_some" (.fn 27),
  gp "_law_sort" (.fn 28),
  gp "_law_like" (.fn 29),
  gp "_law_rows" (.fn 30),
  gp "_law_number" (.fn 31),
  gp "_law_at" (.fn 32),
  gp "_law_net" (.fn 33),
  gp "_law_step" (.fn 34),
  gp "_law_walk" (.fn 35),
  gp "_law_right" (.fn 36),
  gp "_law_turned_right" (.fn 37),
  gp "law" (.fn 38),
  gp "ANSWERS" (.val (.str "01")),
  gp "LENGTHS" (.val (.tuple [(.int 1), (.int 2), (.int 4), (.int 8), (.int 16), (.int 32), (.int 64)])),
  gp "MOST" (.val (.int 6)),
  gp "MOST_SIGNS" (.val (.int 5)),
  gp "abs" (.bi .abs),
  gp "all" (.bi .all),
  gp "bool" (.bi .tbool),
  gp "dict" (.bi .tdict),
  gp "int" (.bi .tint),
  gp "isinstance" (.bi .isinstance),
  gp "len" (.bi .len),
  gp "list" (.bi .tlist),
  gp "max" (.bi .max),
  gp "min" (.bi .min),
  gp "range" (.bi .range),
  gp "set" (.bi .tset),
  gp "sorted" (.bi .sorted),
  gp "str" (.bi .tstr),
  gp "tuple" (.bi .ttuple),
  gp "zip" (.bi .zip)]
/-- is_integer -/
def C0 : EC := { N := ["value"], sc := L2.defScope (topS 8), fn := (fun _ => true), gl := gl, bx := [], rb := false }
def b0 : Option Ss := semSs C0 60 (L2.defBody (topS 8))
def fd0 : FnD := ⟨1, 1, false, b0.getD sNo⟩
/-- is_whole -/
def C1 : EC := { N := ["value", "low", "high"], sc := L2.defScope (topS 9), fn := (fun _ => true), gl := gl, bx := [], rb := false }
def b1 : Option Ss := semSs C1 60 (L2.defBody (topS 9))
def fd1 : FnD := ⟨3, 3, false, b1.getD sNo⟩
/-- is_tuple_of -/
def C2 : EC := { N := ["value", "low", "high"], sc := L2.defScope (topS 10), fn := (fun _ => true), gl := gl, bx := [], rb := false }
def b2 : Option Ss := semSs C2 60 (L2.defBody (topS 10))
def fd2 : FnD := ⟨3, 3, false, b2.getD sNo⟩
/-- is_word -/
def C3 : EC := { N := ["value", "signs", "low", "high", "sign"], sc := L2.defScope (topS 11), fn := (fun _ => true), gl := gl, bx := [], rb := false }
def b3 : Option Ss := semSs C3 60 (L2.defBody (topS 11))
def fd3 : FnD := ⟨4, 5, false, b3.getD sNo⟩
/-- fits_function -/
def C4 : EC := { N := ["value"], sc := L2.defScope (topS 12), fn := (fun _ => true), gl := gl, bx := [], rb := false }
def b4 : Option Ss := semSs C4 60 (L2.defBody (topS 12))
def fd4 : FnD := ⟨1, 1, false, b4.getD sNo⟩
/-- count_in -/
def C5 : EC := { N := ["function"], sc := L2.defScope (topS 13), fn := (fun _ => true), gl := gl, bx := [], rb := false }
def b5 : Option Ss := semSs C5 60 (L2.defBody (topS 13))
def fd5 : FnD := ⟨1, 1, false, b5.getD sNo⟩
/-- fits_row -/
def C6 : EC := { N := ["many", "value", "sign"], sc := L2.defScope (topS 14), fn := (fun _ => true), gl := gl, bx := [], rb := false }
def b6 : Option Ss := semSs C6 60 (L2.defBody (topS 14))
def fd6 : FnD := ⟨2, 3, false, b6.getD sNo⟩
/-- rows_in -/
def C7 : EC := { N := ["many", "found", "turn", "row"], sc := L2.defScope (topS 15), fn := (fun _ => true), gl := gl, bx := [], rb := false }
def b7 : Option Ss := semSs C7 60 (L2.defBody (topS 15))
def fd7 : FnD := ⟨1, 4, false, b7.getD sNo⟩
/-- number_in -/
def C8 : EC := { N := ["row", "found", "sign"], sc := L2.defScope (topS 16), fn := (fun _ => true), gl := gl, bx := [], rb := false }
def b8 : Option Ss := semSs C8 60 (L2.defBody (topS 16))
def fd8 : FnD := ⟨1, 3, false, b8.getD sNo⟩
/-- answer_in -/
def C9 : EC := { N := ["function", "row"], sc := L2.defScope (topS 17), fn := (fun _ => true), gl := gl, bx := [], rb := false }
def b9 : Option Ss := semSs C9 60 (L2.defBody (topS 17))
def fd9 : FnD := ⟨2, 2, false, b9.getD sNo⟩
/-- fits_net -/
def C10 : EC := { N := ["value", "own"], sc := L2.defScope (topS 20), fn := (fun _ => true), gl := gl, bx := [], rb := false }
def b10 : Option Ss := semSs C10 60 (L2.defBody (topS 20))
def fd10 : FnD := ⟨1, 2, false, b10.getD sNo⟩
/-- need_net -/
def C11 : EC := { N := ["value"], sc := L2.defScope (topS 21), fn := (fun _ => true), gl := gl, bx := [], rb := false }
def b11 : Option Ss := semSs C11 60 (L2.defBody (topS 21))
def fd11 : FnD := ⟨1, 1, false, b11.getD sNo⟩
/-- need_row_of -/
def C12 : EC := { N := ["net", "value"], sc := L2.defScope (topS 22), fn := (fun _ => true), gl := gl, bx := [], rb := false }
def b12 : Option Ss := semSs C12 60 (L2.defBody (topS 22))
def fd12 : FnD := ⟨2, 2, false, b12.getD sNo⟩
/-- step_in -/
def C13 : EC := { N := ["net", "row", "own"], sc := L2.defScope (topS 23), fn := (fun _ => true), gl := gl, bx := [], rb := false }
def b13 : Option Ss := semSs C13 60 (L2.defBody (topS 23))
def fd13 : FnD := ⟨2, 3, false, b13.getD sNo⟩
/-- steps_from -/
def C14 : EC := { N := ["net", "row", "found", "places"], sc := L2.defScope (topS 24), fn := (fun _ => true), gl := gl, bx := ["found", "places"], rb := false }
def b14 : Option Ss := semSs C14 60 (L2.defBody (topS 24))
def fd14 : FnD := ⟨2, 4, false, b14.getD sNo⟩
/-- from_least -/
def C15 : EC := { N := ["rows", "at"], sc := L2.defScope (topS 25), fn := (fun _ => true), gl := gl, bx := [], rb := false }
def b15 : Option Ss := semSs C15 60 (L2.defBody (topS 25))
def fd15 : FnD := ⟨1, 2, false, b15.getD sNo⟩
/-- next_row -/
def C16 : EC := { N := ["net", "row"], sc := L2.defScope (topS 26), fn := (fun _ => true), gl := gl, bx := [], rb := false }
def b16 : Option Ss := semSs C16 60 (L2.defBody (topS 26))
def fd16 : FnD := ⟨2, 2, false, b16.getD sNo⟩
/-- tail_length -/
def C17 : EC := { N := ["net", "row"], sc := L2.defScope (topS 27), fn := (fun _ => true), gl := gl, bx := [], rb := false }
def b17 : Option Ss := semSs C17 60 (L2.defBody (topS 27))
def fd17 : FnD := ⟨2, 2, false, b17.getD sNo⟩
/-- round_from -/
def C18 : EC := { N := ["net", "row", "rows", "begin"], sc := L2.defScope (topS 28), fn := (fun _ => true), gl := gl, bx := [], rb := false }
def b18 : Option Ss := semSs C18 60 (L2.defBody (topS 28))
def fd18 : FnD := ⟨2, 4, false, b18.getD sNo⟩
/-- rounds_in -/
def C19 : EC := { N := ["net", "found", "row", "own", "rows", "begin"], sc := L2.defScope (topS 30), fn := (fun _ => true), gl := gl, bx := ["found"], rb := true }
def b19 : Option Ss := semSs C19 60 (L2.defBody (topS 30))
def fd19 : FnD := ⟨1, 6, true, b19.getD sNo⟩
/-- all_rounds -/
def C20 : EC := { N := ["net"], sc := L2.defScope (topS 31), fn := (fun _ => true), gl := gl, bx := [], rb := false }
def b20 : Option Ss := semSs C20 60 (L2.defBody (topS 31))
def fd20 : FnD := ⟨1, 1, false, b20.getD sNo⟩
/-- still_rows -/
def C21 : EC := { N := ["net", "row"], sc := L2.defScope (topS 32), fn := (fun _ => true), gl := gl, bx := [], rb := false }
def b21 : Option Ss := semSs C21 60 (L2.defBody (topS 32))
def fd21 : FnD := ⟨1, 2, false, b21.getD sNo⟩
/-- garden_rows -/
def C22 : EC := { N := ["net", "met", "row"], sc := L2.defScope (topS 33), fn := (fun _ => true), gl := gl, bx := ["met"], rb := false }
def b22 : Option Ss := semSs C22 60 (L2.defBody (topS 33))
def fd22 : FnD := ⟨1, 3, false, b22.getD sNo⟩
/-- lots_of_rounds -/
def C23 : EC := { N := ["net", "own", "many"], sc := L2.defScope (topS 34), fn := (fun _ => true), gl := gl, bx := [], rb := false }
def b23 : Option Ss := semSs C23 60 (L2.defBody (topS 34))
def fd23 : FnD := ⟨1, 3, false, b23.getD sNo⟩
/-- longest_tail -/
def C24 : EC := { N := ["net", "row"], sc := L2.defScope (topS 35), fn := (fun _ => true), gl := gl, bx := [], rb := false }
def b24 : Option Ss := semSs C24 60 (L2.defBody (topS 35))
def fd24 : FnD := ⟨1, 2, false, b24.getD sNo⟩
/-- _law_cup -/
def C25 : EC := { N := ["script", "cell"], sc := L2.defScope (topS 37), fn := (fun _ => true), gl := gl, bx := [], rb := true }
def b25 : Option Ss := semSs C25 60 (L2.defBody (topS 37))
def fd25 : FnD := ⟨1, 2, true, b25.getD sNo⟩
/-- _law_roll -/
def C26 : EC := { N := ["cup", "many", "deep", "found"], sc := L2.defScope (topS 38), fn := (fun _ => true), gl := gl, bx := [], rb := false }
def b26 : Option Ss := semSs C26 60 (L2.defBody (topS 38))
def fd26 : FnD := ⟨2, 4, false, b26.getD sNo⟩
/-- _law_some -/
def C27 : EC := { N := ["cup", "things"], sc := L2.defScope (topS 39), fn := (fun _ => true), gl := gl, bx := [], rb := false }
def b27 : Option Ss := semSs C27 60 (L2.defBody (topS 39))
def fd27 : FnD := ⟨2, 2, false, b27.getD sNo⟩
/-- _law_sort -/
def C28 : EC := { N := ["value"], sc := L2.defScope (topS 40), fn := (fun _ => true), gl := gl, bx := [], rb := false }
def b28 : Option Ss := semSs C28 60 (L2.defBody (topS 40))
def fd28 : FnD := ⟨1, 1, false, b28.getD sNo⟩
/-- _law_like -/
def C29 : EC := { N := ["one", "other", "sort", "first", "second"], sc := L2.defScope (topS 41), fn := (fun _ => true), gl := gl, bx := [], rb := false }
def b29 : Option Ss := semSs C29 60 (L2.defBody (topS 41))
def fd29 : FnD := ⟨2, 5, false, b29.getD sNo⟩
/-- _law_rows -/
def C30 : EC := { N := ["many", "found", "turn", "longer", "some"], sc := L2.defScope (topS 42), fn := (fun _ => true), gl := gl, bx := [], rb := false }
def b30 : Option Ss := semSs C30 60 (L2.defBody (topS 42))
def fd30 : FnD := ⟨1, 5, false, b30.getD sNo⟩
/-- _law_number -/
def C31 : EC := { N := ["row", "found", "sign"], sc := L2.defScope (topS 43), fn := (fun _ => true), gl := gl, bx := [], rb := false }
def b31 : Option Ss := semSs C31 60 (L2.defBody (topS 43))
def fd31 : FnD := ⟨1, 3, false, b31.getD sNo⟩
/-- _law_at -/
def C32 : EC := { N := ["function", "row"], sc := L2.defScope (topS 44), fn := (fun _ => true), gl := gl, bx := [], rb := false }
def b32 : Option Ss := semSs C32 60 (L2.defBody (topS 44))
def fd32 : FnD := ⟨2, 2, false, b32.getD sNo⟩
/-- _law_net -/
def C33 : EC := { N := ["cup", "most", "rows", "sign", "many", "way", "found", "answers", "row", "one", "other", "turned", "told"], sc := L2.defScope (topS 45), fn := (fun _ => true), gl := gl, bx := ["found"], rb := false }
def b33 : Option Ss := semSs C33 60 (L2.defBody (topS 45))
def fd33 : FnD := ⟨2, 13, false, b33.getD sNo⟩
/-- _law_step -/
def C34 : EC := { N := ["net", "row", "own"], sc := L2.defScope (topS 46), fn := (fun _ => true), gl := gl, bx := [], rb := false }
def b34 : Option Ss := semSs C34 60 (L2.defBody (topS 46))
def fd34 : FnD := ⟨2, 3, false, b34.getD sNo⟩
/-- _law_walk -/
def C35 : EC := { N := ["net", "row", "found"], sc := L2.defScope (topS 47), fn := (fun _ => true), gl := gl, bx := ["found"], rb := false }
def b35 : Option Ss := semSs C35 60 (L2.defBody (topS 47))
def fd35 : FnD := ⟨2, 3, false, b35.getD sNo⟩
/-- _law_right -/
def C36 : EC := { N := ["net", "row", "steps", "still", "gardens", "told", "rows", "lots", "longest", "whole", "at", "own", "walk", "begin", "step"], sc := L2.defScope (topS 48), fn := (fun _ => true), gl := gl, bx := ["lots"], rb := false }
def b36 : Option Ss := semSs C36 60 (L2.defBody (topS 48))
def fd36 : FnD := ⟨1, 15, false, b36.getD sNo⟩
/-- _law_turned_right -/
def C37 : EC := { N := ["cup", "net", "many", "found", "sign", "other", "told", "due", "left", "order", "answers", "row", "old", "own"], sc := L2.defScope (topS 49), fn := (fun _ => true), gl := gl, bx := ["found", "left", "order"], rb := false }
def b37 : Option Ss := semSs C37 60 (L2.defBody (topS 49))
def fd37 : FnD := ⟨2, 14, false, b37.getD sNo⟩
/-- law -/
def C38 : EC := { N := ["script", "cup", "told", "due", "most", "many", "ring", "row", "swap", "both", "net", "sign"], sc := L2.defScope (topS 50), fn := (fun _ => true), gl := gl, bx := [], rb := false }
def b38 : Option Ss := semSs C38 60 (L2.defBody (topS 50))
def fd38 : FnD := ⟨1, 12, false, b38.getD sNo⟩
def tbl : List FnD := [fd0, fd1, fd2, fd3, fd4, fd5, fd6, fd7, fd8, fd9, fd10, fd11, fd12, fd13, fd14, fd15, fd16, fd17, fd18, fd19, fd20, fd21, fd22, fd23, fd24, fd25, fd26, fd27, fd28, fd29, fd30, fd31, fd32, fd33, fd34, fd35, fd36, fd37, fd38]
theorem some0 : b0.isSome = true := by decide +kernel
theorem sc0 : FnScope C0.N ["value"] (L2.defScope (topS 8)) := ⟨rfl, rfl, rfl, by decide +kernel, rfl, by decide +kernel, by decide +kernel⟩
theorem some1 : b1.isSome = true := by decide +kernel
theorem sc1 : FnScope C1.N ["value", "low", "high"] (L2.defScope (topS 9)) := ⟨rfl, rfl, rfl, by decide +kernel, rfl, by decide +kernel, by decide +kernel⟩
theorem some2 : b2.isSome = true := by decide +kernel
theorem sc2 : FnScope C2.N ["value", "low", "high"] (L2.defScope (topS 10)) := ⟨rfl, rfl, rfl, by decide +kernel, rfl, by decide +kernel, by decide +kernel⟩
theorem some3 : b3.isSome = true := by decide +kernel
theorem sc3 : FnScope C3.N ["value", "signs", "low", "high"] (L2.defScope (topS 11)) := ⟨rfl, rfl, rfl, by decide +kernel, rfl, by decide +kernel, by decide +kernel⟩
theorem some4 : b4.isSome = true := by decide +kernel
theorem sc4 : FnScope C4.N ["value"] (L2.defScope (topS 12)) := ⟨rfl, rfl, rfl, by decide +kernel, rfl, by decide +kernel, by decide +kernel⟩
theorem some5 : b5.isSome = true := by decide +kernel
theorem sc5 : FnScope C5.N ["function"] (L2.defScope (topS 13)) := ⟨rfl, rfl, rfl, by decide +kernel, rfl, by decide +kernel, by decide +kernel⟩
theorem some6 : b6.isSome = true := by decide +kernel
theorem sc6 : FnScope C6.N ["many", "value"] (L2.defScope (topS 14)) := ⟨rfl, rfl, rfl, by decide +kernel, rfl, by decide +kernel, by decide +kernel⟩
theorem some7 : b7.isSome = true := by decide +kernel
theorem sc7 : FnScope C7.N ["many"] (L2.defScope (topS 15)) := ⟨rfl, rfl, rfl, by decide +kernel, rfl, by decide +kernel, by decide +kernel⟩
theorem some8 : b8.isSome = true := by decide +kernel
theorem sc8 : FnScope C8.N ["row"] (L2.defScope (topS 16)) := ⟨rfl, rfl, rfl, by decide +kernel, rfl, by decide +kernel, by decide +kernel⟩
theorem some9 : b9.isSome = true := by decide +kernel
theorem sc9 : FnScope C9.N ["function", "row"] (L2.defScope (topS 17)) := ⟨rfl, rfl, rfl, by decide +kernel, rfl, by decide +kernel, by decide +kernel⟩
theorem some10 : b10.isSome = true := by decide +kernel
theorem sc10 : FnScope C10.N ["value"] (L2.defScope (topS 20)) := ⟨rfl, rfl, rfl, by decide +kernel, rfl, by decide +kernel, by decide +kernel⟩
theorem some11 : b11.isSome = true := by decide +kernel
theorem sc11 : FnScope C11.N ["value"] (L2.defScope (topS 21)) := ⟨rfl, rfl, rfl, by decide +kernel, rfl, by decide +kernel, by decide +kernel⟩
theorem some12 : b12.isSome = true := by decide +kernel
theorem sc12 : FnScope C12.N ["net", "value"] (L2.defScope (topS 22)) := ⟨rfl, rfl, rfl, by decide +kernel, rfl, by decide +kernel, by decide +kernel⟩
theorem some13 : b13.isSome = true := by decide +kernel
theorem sc13 : FnScope C13.N ["net", "row"] (L2.defScope (topS 23)) := ⟨rfl, rfl, rfl, by decide +kernel, rfl, by decide +kernel, by decide +kernel⟩
theorem some14 : b14.isSome = true := by decide +kernel
theorem sc14 : FnScope C14.N ["net", "row"] (L2.defScope (topS 24)) := ⟨rfl, rfl, rfl, by decide +kernel, rfl, by decide +kernel, by decide +kernel⟩
theorem some15 : b15.isSome = true := by decide +kernel
theorem sc15 : FnScope C15.N ["rows"] (L2.defScope (topS 25)) := ⟨rfl, rfl, rfl, by decide +kernel, rfl, by decide +kernel, by decide +kernel⟩
theorem some16 : b16.isSome = true := by decide +kernel
theorem sc16 : FnScope C16.N ["net", "row"] (L2.defScope (topS 26)) := ⟨rfl, rfl, rfl, by decide +kernel, rfl, by decide +kernel, by decide +kernel⟩
theorem some17 : b17.isSome = true := by decide +kernel
theorem sc17 : FnScope C17.N ["net", "row"] (L2.defScope (topS 27)) := ⟨rfl, rfl, rfl, by decide +kernel, rfl, by decide +kernel, by decide +kernel⟩
theorem some18 : b18.isSome = true := by decide +kernel
theorem sc18 : FnScope C18.N ["net", "row"] (L2.defScope (topS 28)) := ⟨rfl, rfl, rfl, by decide +kernel, rfl, by decide +kernel, by decide +kernel⟩
theorem some19 : b19.isSome = true := by decide +kernel
theorem sc19 : FnScope C19.N ["net"] (L2.defScope (topS 30)) := ⟨rfl, rfl, rfl, by decide +kernel, rfl, by decide +kernel, by decide +kernel⟩
theorem some20 : b20.isSome = true := by decide +kernel
theorem sc20 : FnScope C20.N ["net"] (L2.defScope (topS 31)) := ⟨rfl, rfl, rfl, by decide +kernel, rfl, by decide +kernel, by decide +kernel⟩
theorem some21 : b21.isSome = true := by decide +kernel
theorem sc21 : FnScope C21.N ["net"] (L2.defScope (topS 32)) := ⟨rfl, rfl, rfl, by decide +kernel, rfl, by decide +kernel, by decide +kernel⟩
theorem some22 : b22.isSome = true := by decide +kernel
theorem sc22 : FnScope C22.N ["net"] (L2.defScope (topS 33)) := ⟨rfl, rfl, rfl, by decide +kernel, rfl, by decide +kernel, by decide +kernel⟩
theorem some23 : b23.isSome = true := by decide +kernel
theorem sc23 : FnScope C23.N ["net"] (L2.defScope (topS 34)) := ⟨rfl, rfl, rfl, by decide +kernel, rfl, by decide +kernel, by decide +kernel⟩
theorem some24 : b24.isSome = true := by decide +kernel
theorem sc24 : FnScope C24.N ["net"] (L2.defScope (topS 35)) := ⟨rfl, rfl, rfl, by decide +kernel, rfl, by decide +kernel, by decide +kernel⟩
theorem some25 : b25.isSome = true := by decide +kernel
theorem sc25 : FnScope C25.N ["script"] (L2.defScope (topS 37)) := ⟨rfl, rfl, rfl, by decide +kernel, rfl, by decide +kernel, by decide +kernel⟩
theorem some26 : b26.isSome = true := by decide +kernel
theorem sc26 : FnScope C26.N ["cup", "many"] (L2.defScope (topS 38)) := ⟨rfl, rfl, rfl, by decide +kernel, rfl, by decide +kernel, by decide +kernel⟩
theorem some27 : b27.isSome = true := by decide +kernel
theorem sc27 : FnScope C27.N ["cup", "things"] (L2.defScope (topS 39)) := ⟨rfl, rfl, rfl, by decide +kernel, rfl, by decide +kernel, by decide +kernel⟩
theorem some28 : b28.isSome = true := by decide +kernel
theorem sc28 : FnScope C28.N ["value"] (L2.defScope (topS 40)) := ⟨rfl, rfl, rfl, by decide +kernel, rfl, by decide +kernel, by decide +kernel⟩
theorem some29 : b29.isSome = true := by decide +kernel
theorem sc29 : FnScope C29.N ["one", "other"] (L2.defScope (topS 41)) := ⟨rfl, rfl, rfl, by decide +kernel, rfl, by decide +kernel, by decide +kernel⟩
theorem some30 : b30.isSome = true := by decide +kernel
theorem sc30 : FnScope C30.N ["many"] (L2.defScope (topS 42)) := ⟨rfl, rfl, rfl, by decide +kernel, rfl, by decide +kernel, by decide +kernel⟩
theorem some31 : b31.isSome = true := by decide +kernel
theorem sc31 : FnScope C31.N ["row"] (L2.defScope (topS 43)) := ⟨rfl, rfl, rfl, by decide +kernel, rfl, by decide +kernel, by decide +kernel⟩
theorem some32 : b32.isSome = true := by decide +kernel
theorem sc32 : FnScope C32.N ["function", "row"] (L2.defScope (topS 44)) := ⟨rfl, rfl, rfl, by decide +kernel, rfl, by decide +kernel, by decide +kernel⟩
theorem some33 : b33.isSome = true := by decide +kernel
theorem sc33 : FnScope C33.N ["cup", "most"] (L2.defScope (topS 45)) := ⟨rfl, rfl, rfl, by decide +kernel, rfl, by decide +kernel, by decide +kernel⟩
theorem some34 : b34.isSome = true := by decide +kernel
theorem sc34 : FnScope C34.N ["net", "row"] (L2.defScope (topS 46)) := ⟨rfl, rfl, rfl, by decide +kernel, rfl, by decide +kernel, by decide +kernel⟩
theorem some35 : b35.isSome = true := by decide +kernel
theorem sc35 : FnScope C35.N ["net", "row"] (L2.defScope (topS 47)) := ⟨rfl, rfl, rfl, by decide +kernel, rfl, by decide +kernel, by decide +kernel⟩
theorem some36 : b36.isSome = true := by decide +kernel
theorem sc36 : FnScope C36.N ["net"] (L2.defScope (topS 48)) := ⟨rfl, rfl, rfl, by decide +kernel, rfl, by decide +kernel, by decide +kernel⟩
theorem some37 : b37.isSome = true := by decide +kernel
theorem sc37 : FnScope C37.N ["cup", "net"] (L2.defScope (topS 49)) := ⟨rfl, rfl, rfl, by decide +kernel, rfl, by decide +kernel, by decide +kernel⟩
theorem some38 : b38.isSome = true := by decide +kernel
theorem sc38 : FnScope C38.N ["script"] (L2.defScope (topS 50)) := ⟨rfl, rfl, rfl, by decide +kernel, rfl, by decide +kernel, by decide +kernel⟩

end Law

namespace Law
open PySem Ev
abbrev i_is_integer : Nat := 0
abbrev i_is_whole : Nat := 1
abbrev i_is_tuple_of : Nat := 2
abbrev i_is_word : Nat := 3
abbrev i_fits_function : Nat := 4
abbrev i_count_in : Nat := 5
abbrev i_fits_row : Nat := 6
abbrev i_rows_in : Nat := 7
abbrev i_number_in : Nat := 8
abbrev i_answer_in : Nat := 9
abbrev i_fits_net : Nat := 10
abbrev i_need_net : Nat := 11
abbrev i_need_row_of : Nat := 12
abbrev i_step_in : Nat := 13
abbrev i_steps_from : Nat := 14
abbrev i_from_least : Nat := 15
abbrev i_next_row : Nat := 16
abbrev i_tail_length : Nat := 17
abbrev i_round_from : Nat := 18
abbrev i_rounds_in : Nat := 19
abbrev i_all_rounds : Nat := 20
abbrev i_still_rows : Nat := 21
abbrev i_garden_rows : Nat := 22
abbrev i_lots_of_rounds : Nat := 23
abbrev i_longest_tail : Nat := 24
abbrev i__law_cup : Nat := 25
abbrev i__law_roll : Nat := 26
abbrev i__law_some : Nat := 27
abbrev i__law_sort : Nat := 28
abbrev i__law_like : Nat := 29
abbrev i__law_rows : Nat := 30
abbrev i__law_number : Nat := 31
abbrev i__law_at : Nat := 32
abbrev i__law_net : Nat := 33
abbrev i__law_step : Nat := 34
abbrev i__law_walk : Nat := 35
abbrev i__law_right : Nat := 36
abbrev i__law_turned_right : Nat := 37
abbrev i_law : Nat := 38
/-! ### is_integer : 0=value -/
/-- return isinstance(value, int) and (not isinstance(value, bool)) -/
abbrev m_is_integer_1 : Ss := (sSeq (sRet (eAnd (eBi [(eVar 0)] (isaB .int)) (eNot (eBi [(eVar 0)] (isaB .bool))))) sNext)
abbrev m_is_integer : Ss := m_is_integer_1
theorem is_is_integer : fd0 = ⟨1, 1, false, m_is_integer⟩ := by kernel_rfl
theorem c_is_integer (k : Nat) : callD tbl (k + 1) i_is_integer = runFn ⟨1, 1, false, m_is_integer⟩ (callD tbl k) := (call_at (fd := fd0) rfl).trans (by rw [is_is_integer])
/-! ### is_whole : 0=value 1=low 2=high -/
/-- return is_integer(value) and low <= value <= high -/
abbrev m_is_whole_1 : Ss := (sSeq (sRet (eAnd (eCall i_is_integer [(eVar 0)]) (eChain .LtE .LtE (eVar 1) (eVar 0) (eVar 2)))) sNext)
abbrev m_is_whole : Ss := m_is_whole_1
theorem is_is_whole : fd1 = ⟨3, 3, false, m_is_whole⟩ := by kernel_rfl
theorem c_is_whole (k : Nat) : callD tbl (k + 1) i_is_whole = runFn ⟨3, 3, false, m_is_whole⟩ (callD tbl k) := (call_at (fd := fd1) rfl).trans (by rw [is_is_whole])
/-! ### is_tuple_of : 0=value 1=low 2=high -/
/-- return isinstance(value, tuple) and low <= len(value) <= high -/
abbrev m_is_tuple_of_1 : Ss := (sSeq (sRet (eAnd (eBi [(eVar 0)] (isaB .tuple)) (eChain .LtE .LtE (eVar 1) (eBi [(eVar 0)] lenD) (eVar 2)))) sNext)
abbrev m_is_tuple_of : Ss := m_is_tuple_of_1
theorem is_is_tuple_of : fd2 = ⟨3, 3, false, m_is_tuple_of⟩ := by kernel_rfl
theorem c_is_tuple_of (k : Nat) : callD tbl (k + 1) i_is_tuple_of = runFn ⟨3, 3, false, m_is_tuple_of⟩ (callD tbl k) := (call_at (fd := fd2) rfl).trans (by rw [is_is_tuple_of])
/-! ### is_word : 0=value 1=signs 2=low 3=high 4=sign -/
/-- return isinstance(value, str) and low <= len(value) <= high and all([sign in signs for sign in value]) -/
abbrev m_is_word_1 : Ss := (sSeq (sRet (eAnd (eBi [(eVar 0)] (isaB .str)) (eAnd (eChain .LtE .LtE (eVar 2) (eBi [(eVar 0)] lenD) (eVar 3)) (eBi [(eNew (nComp [4] (iOf (eVar 0)) (.name 4) cYes (eCmp .In (eVar 4) (eVar 1))))] allB)))) sNext)
abbrev m_is_word : Ss := m_is_word_1
theorem is_is_word : fd3 = ⟨4, 5, false, m_is_word⟩ := by kernel_rfl
theorem c_is_word (k : Nat) : callD tbl (k + 1) i_is_word = runFn ⟨4, 5, false, m_is_word⟩ (callD tbl k) := (call_at (fd := fd3) rfl).trans (by rw [is_is_word])
/-! ### fits_function : 0=value -/
/-- return is_word(value, ANSWERS, 1, LENGTHS[MOST]) and len(value) in LENGTHS -/
abbrev m_fits_function_1 : Ss := (sSeq (sRet (eAnd (eCall i_is_word [(eVar 0), (eD (.str "01")), (eD (.int 1)), (eItem (eD (.tuple [(.int 1), (.int 2), (.int 4), (.int 8), (.int 16), (.int 32), (.int 64)])) (eD (.int 6)))]) (eCmp .In (eBi [(eVar 0)] lenD) (eD (.tuple [(.int 1), (.int 2), (.int 4), (.int 8), (.int 16), (.int 32), (.int 64)]))))) sNext)
abbrev m_fits_function : Ss := m_fits_function_1
theorem is_fits_function : fd4 = ⟨1, 1, false, m_fits_function⟩ := by kernel_rfl
theorem c_fits_function (k : Nat) : callD tbl (k + 1) i_fits_function = runFn ⟨1, 1, false, m_fits_function⟩ (callD tbl k) := (call_at (fd := fd4) rfl).trans (by rw [is_fits_function])
/-! ### count_in : 0=function -/
/-- return LENGTHS.index(len(function)) -/
abbrev m_count_in_1 : Ss := (sSeq (sRet (eBi [(eD (.tuple [(.int 1), (.int 2), (.int 4), (.int 8), (.int 16), (.int 32), (.int 64)])), (eBi [(eVar 0)] lenD)] indexT)) sNext)
abbrev m_count_in : Ss := m_count_in_1
theorem is_count_in : fd5 = ⟨1, 1, false, m_count_in⟩ := by kernel_rfl
theorem c_count_in (k : Nat) : callD tbl (k + 1) i_count_in = runFn ⟨1, 1, false, m_count_in⟩ (callD tbl k) := (call_at (fd := fd5) rfl).trans (by rw [is_count_in])
/-! ### fits_row : 0=many 1=value 2=sign -/
/-- return is_tuple_of(value, many, many) and all([is_whole(sign, 0, 1) for sign in value]) -/
abbrev m_fits_row_1 : Ss := (sSeq (sRet (eAnd (eCall i_is_tuple_of [(eVar 1), (eVar 0), (eVar 0)]) (eBi [(eNew (nComp [2] (iOf (eVar 1)) (.name 2) cYes (eCall i_is_whole [(eVar 2), (eD (.int 0)), (eD (.int 1))])))] allB))) sNext)
abbrev m_fits_row : Ss := m_fits_row_1
theorem is_fits_row : fd6 = ⟨2, 3, false, m_fits_row⟩ := by kernel_rfl
theorem c_fits_row (k : Nat) : callD tbl (k + 1) i_fits_row = runFn ⟨2, 3, false, m_fits_row⟩ (callD tbl k) := (call_at (fd := fd6) rfl).trans (by rw [is_fits_row])
/-! ### rows_in : 0=many 1=found 2=turn 3=row -/
/-- found = [row + (0,) for row in found] + [row + (1,) for row in found] -/
abbrev m_rows_in_3 : Ss := (sSeq (sSet 1 (eBin .Add (eNew (nComp [3] (iOf (eVar 1)) (.name 3) cYes (eBin .Add (eVar 3) (eTup [(eD (.int 0))])))) (eNew (nComp [3] (iOf (eVar 1)) (.name 3) cYes (eBin .Add (eVar 3) (eTup [(eD (.int 1))])))))) sNext)
/-- return sorted(found) -/
abbrev m_rows_in_4 : Ss := (sSeq (sRet (eNew (nBi [(eVar 1)] sortB))) sNext)
/-- for turn in range(many): -/
abbrev m_rows_in_2 : Ss := (sSeq (sFor (.name 2) (iRange1 (eVar 0)) m_rows_in_3) m_rows_in_4)
/-- found = [()] -/
abbrev m_rows_in_1 : Ss := (sSeq (sSet 1 (eNew (nList [(eTup [])]))) m_rows_in_2)
abbrev m_rows_in : Ss := m_rows_in_1
theorem is_rows_in : fd7 = ⟨1, 4, false, m_rows_in⟩ := by kernel_rfl
theorem c_rows_in (k : Nat) : callD tbl (k + 1) i_rows_in = runFn ⟨1, 4, false, m_rows_in⟩ (callD tbl k) := (call_at (fd := fd7) rfl).trans (by rw [is_rows_in])
/-! ### number_in : 0=row 1=found 2=sign -/
/-- found = 2 * found + sign -/
abbrev m_number_in_3 : Ss := (sSeq (sSet 1 (eBin .Add (eBin .Mult (eD (.int 2)) (eVar 1)) (eVar 2))) sNext)
/-- return found -/
abbrev m_number_in_4 : Ss := (sSeq (sRet (eVar 1)) sNext)
/-- for sign in row: -/
abbrev m_number_in_2 : Ss := (sSeq (sFor (.name 2) (iOf (eVar 0)) m_number_in_3) m_number_in_4)
/-- found = 0 -/
abbrev m_number_in_1 : Ss := (sSeq (sSet 1 (eD (.int 0))) m_number_in_2)
abbrev m_number_in : Ss := m_number_in_1
theorem is_number_in : fd8 = ⟨1, 3, false, m_number_in⟩ := by kernel_rfl
theorem c_number_in (k : Nat) : callD tbl (k + 1) i_number_in = runFn ⟨1, 3, false, m_number_in⟩ (callD tbl k) := (call_at (fd := fd8) rfl).trans (by rw [is_number_in])
/-! ### answer_in : 0=function 1=row -/
/-- return int(function[number_in(row)]) -/
abbrev m_answer_in_1 : Ss := (sSeq (sRet (eBi [(eItem (eVar 0) (eCall i_number_in [(eVar 1)]))] intB)) sNext)
abbrev m_answer_in : Ss := m_answer_in_1
theorem is_answer_in : fd9 = ⟨2, 2, false, m_answer_in⟩ := by kernel_rfl
theorem c_answer_in (k : Nat) : callD tbl (k + 1) i_answer_in = runFn ⟨2, 2, false, m_answer_in⟩ (callD tbl k) := (call_at (fd := fd9) rfl).trans (by rw [is_answer_in])
/-! ### fits_net : 0=value 1=own -/
/-- return False -/
abbrev m_fits_net_2 : Ss := (sSeq (sRet (eD (.bool false))) sNext)
/-- return all([count_in(own) == len(value) for own in value]) -/
abbrev m_fits_net_3 : Ss := (sSeq (sRet (eBi [(eNew (nComp [1] (iOf (eVar 0)) (.name 1) cYes (eCmp .Eq (eCall i_count_in [(eVar 1)]) (eBi [(eVar 0)] lenD))))] allB)) sNext)
/-- if not is_tuple_of(value, 0, MOST_SIGNS) or not all([fits_function(own) for own in value]): -/
abbrev m_fits_net_1 : Ss := (sSeq (sIf (tOr (tNot (tOf (eCall i_is_tuple_of [(eVar 0), (eD (.int 0)), (eD (.int 5))]))) (tNot (tOf (eBi [(eNew (nComp [1] (iOf (eVar 0)) (.name 1) cYes (eCall i_fits_function [(eVar 1)])))] allB)))) m_fits_net_2 sNext) m_fits_net_3)
abbrev m_fits_net : Ss := m_fits_net_1
theorem is_fits_net : fd10 = ⟨1, 2, false, m_fits_net⟩ := by kernel_rfl
theorem c_fits_net (k : Nat) : callD tbl (k + 1) i_fits_net = runFn ⟨1, 2, false, m_fits_net⟩ (callD tbl k) := (call_at (fd := fd10) rfl).trans (by rw [is_fits_net])
/-! ### need_net : 0=value -/
/-- raise InvalidNet('no net') -/
abbrev m_need_net_2 : Ss := (sSeq sNo sNext)
/-- if not fits_net(value): -/
abbrev m_need_net_1 : Ss := (sSeq (sIf (tNot (tOf (eCall i_fits_net [(eVar 0)]))) m_need_net_2 sNext) sNext)
abbrev m_need_net : Ss := m_need_net_1
theorem is_need_net : fd11 = ⟨1, 1, false, m_need_net⟩ := by kernel_rfl
theorem c_need_net (k : Nat) : callD tbl (k + 1) i_need_net = runFn ⟨1, 1, false, m_need_net⟩ (callD tbl k) := (call_at (fd := fd11) rfl).trans (by rw [is_need_net])
/-! ### need_row_of : 0=net 1=value -/
/-- raise InvalidRow('no row of the net') -/
abbrev m_need_row_of_3 : Ss := (sSeq sNo sNext)
/-- if not fits_row(len(net), value): -/
abbrev m_need_row_of_2 : Ss := (sSeq (sIf (tNot (tOf (eCall i_fits_row [(eBi [(eVar 0)] lenD), (eVar 1)]))) m_need_row_of_3 sNext) sNext)
/-- need_net(net) -/
abbrev m_need_row_of_1 : Ss := (sSeq (sDrop (eCall i_need_net [(eVar 0)])) m_need_row_of_2)
abbrev m_need_row_of : Ss := m_need_row_of_1
theorem is_need_row_of : fd12 = ⟨2, 2, false, m_need_row_of⟩ := by kernel_rfl
theorem c_need_row_of (k : Nat) : callD tbl (k + 1) i_need_row_of = runFn ⟨2, 2, false, m_need_row_of⟩ (callD tbl k) := (call_at (fd := fd12) rfl).trans (by rw [is_need_row_of])
/-! ### step_in : 0=net 1=row 2=own -/
/-- return tuple([answer_in(own, row) for own in net]) -/
abbrev m_step_in_1 : Ss := (sSeq (sRet (eBi [(eNew (nComp [2] (iOf (eVar 0)) (.name 2) cYes (eCall i_answer_in [(eVar 2), (eVar 1)])))] tupleB)) sNext)
abbrev m_step_in : Ss := m_step_in_1
theorem is_step_in : fd13 = ⟨2, 3, false, m_step_in⟩ := by kernel_rfl
theorem c_step_in (k : Nat) : callD tbl (k + 1) i_step_in = runFn ⟨2, 3, false, m_step_in⟩ (callD tbl k) := (call_at (fd := fd13) rfl).trans (by rw [is_step_in])
/-! ### steps_from : 0=net 1=row 2=found 3=places -/
/-- row = step_in(net, row) -/
abbrev m_steps_from_5 : Ss := (sSeq (sSet 1 (eCall i_step_in [(eVar 0), (eVar 1)])) sNext)
/-- found.append(row) -/
abbrev m_steps_from_4 : Ss := (sSeq (sDrop (eMut (eVar 2) [(eVar 1)] appendK)) m_steps_from_5)
/-- places[row] = len(found) -/
abbrev m_steps_from_3 : Ss := (sSeq (sPut (eVar 3) (eVar 1) (eBi [(eVar 2)] lenD)) m_steps_from_4)
/-- return (found, places[row]) -/
abbrev m_steps_from_6 : Ss := (sSeq (sRet (eTup [(eVar 2), (eItem (eVar 3) (eVar 1))])) sNext)
/-- while row not in places: -/
abbrev m_steps_from_2 : Ss := (sSeq (sWhile (tOf (eCmp .NotIn (eVar 1) (eVar 3))) m_steps_from_3) m_steps_from_6)
/-- found, places = ([], {}) -/
abbrev m_steps_from_1 : Ss := (sSeq (sPar [2, 3] [(eBox (nList [])), (eBox (fun _ _ => M.pure (.dict [])))]) m_steps_from_2)
abbrev m_steps_from : Ss := m_steps_from_1
theorem is_steps_from : fd14 = ⟨2, 4, false, m_steps_from⟩ := by kernel_rfl
theorem c_steps_from (k : Nat) : callD tbl (k + 1) i_steps_from = runFn ⟨2, 4, false, m_steps_from⟩ (callD tbl k) := (call_at (fd := fd14) rfl).trans (by rw [is_steps_from])
/-! ### from_least : 0=rows 1=at -/
/-- return tuple(rows[at:] + rows[:at]) -/
abbrev m_from_least_2 : Ss := (sSeq (sRet (eBi [(eBin .Add (eSlice (eVar 0) (some (eVar 1)) none) (eSlice (eVar 0) none (some (eVar 1))))] tupleB)) sNext)
/-- at = rows.index(min(rows)) -/
abbrev m_from_least_1 : Ss := (sSeq (sSet 1 (eMeth (eVar 0) [(eBi [(eVar 0)] minB)] indexM)) m_from_least_2)
abbrev m_from_least : Ss := m_from_least_1
theorem is_from_least : fd15 = ⟨1, 2, false, m_from_least⟩ := by kernel_rfl
theorem c_from_least (k : Nat) : callD tbl (k + 1) i_from_least = runFn ⟨1, 2, false, m_from_least⟩ (callD tbl k) := (call_at (fd := fd15) rfl).trans (by rw [is_from_least])
/-! ### next_row : 0=net 1=row -/
/-- return step_in(net, row) -/
abbrev m_next_row_2 : Ss := (sSeq (sRet (eCall i_step_in [(eVar 0), (eVar 1)])) sNext)
/-- need_row_of(net, row) -/
abbrev m_next_row_1 : Ss := (sSeq (sDrop (eCall i_need_row_of [(eVar 0), (eVar 1)])) m_next_row_2)
abbrev m_next_row : Ss := m_next_row_1
theorem is_next_row : fd16 = ⟨2, 2, false, m_next_row⟩ := by kernel_rfl
theorem c_next_row (k : Nat) : callD tbl (k + 1) i_next_row = runFn ⟨2, 2, false, m_next_row⟩ (callD tbl k) := (call_at (fd := fd16) rfl).trans (by rw [is_next_row])
/-! ### tail_length : 0=net 1=row -/
/-- return steps_from(net, row)[1] -/
abbrev m_tail_length_2 : Ss := (sSeq (sRet (eItem (eCall i_steps_from [(eVar 0), (eVar 1)]) (eD (.int 1)))) sNext)
/-- need_row_of(net, row) -/
abbrev m_tail_length_1 : Ss := (sSeq (sDrop (eCall i_need_row_of [(eVar 0), (eVar 1)])) m_tail_length_2)
abbrev m_tail_length : Ss := m_tail_length_1
theorem is_tail_length : fd17 = ⟨2, 2, false, m_tail_length⟩ := by kernel_rfl
theorem c_tail_length (k : Nat) : callD tbl (k + 1) i_tail_length = runFn ⟨2, 2, false, m_tail_length⟩ (callD tbl k) := (call_at (fd := fd17) rfl).trans (by rw [is_tail_length])
/-! ### round_from : 0=net 1=row 2=rows 3=begin -/
/-- return from_least(rows[begin:]) -/
abbrev m_round_from_3 : Ss := (sSeq (sRet (eCall i_from_least [(eSlice (eVar 2) (some (eVar 3)) none)])) sNext)
/-- rows, begin = steps_from(net, row) -/
abbrev m_round_from_2 : Ss := (sSeq (sAsg (.tup [(.name 2), (.name 3)]) (eCall i_steps_from [(eVar 0), (eVar 1)])) m_round_from_3)
/-- need_row_of(net, row) -/
abbrev m_round_from_1 : Ss := (sSeq (sDrop (eCall i_need_row_of [(eVar 0), (eVar 1)])) m_round_from_2)
abbrev m_round_from : Ss := m_round_from_1
theorem is_round_from : fd18 = ⟨2, 4, false, m_round_from⟩ := by kernel_rfl
theorem c_round_from (k : Nat) : callD tbl (k + 1) i_round_from = runFn ⟨2, 4, false, m_round_from⟩ (callD tbl k) := (call_at (fd := fd18) rfl).trans (by rw [is_round_from])
/-! ### rounds_in : 0=net 1=found 2=row 3=own 4=rows 5=begin -/
/-- found[own] = found.get(own, 0) + 1 -/
abbrev m_rounds_in_5 : Ss := (sSeq (sPut (eVar 1) (eVar 3) (eBin .Add (eMeth (eVar 1) [(eVar 3), (eD (.int 0))] getM) (eD (.int 1)))) sNext)
/-- own = from_least(rows[begin:]) -/
abbrev m_rounds_in_4 : Ss := (sSeq (sSet 3 (eCall i_from_least [(eSlice (eVar 4) (some (eVar 5)) none)])) m_rounds_in_5)
/-- rows, begin = steps_from(net, row) -/
abbrev m_rounds_in_3 : Ss := (sSeq (sAsg (.tup [(.name 4), (.name 5)]) (eCall i_steps_from [(eVar 0), (eVar 2)])) m_rounds_in_4)
/-- return found -/
abbrev m_rounds_in_6 : Ss := (sSeq (sRet (eVar 1)) sNext)
/-- for row in rows_in(len(net)): -/
abbrev m_rounds_in_2 : Ss := (sSeq (sFor (.name 2) (iOf (eCall i_rows_in [(eBi [(eVar 0)] lenD)])) m_rounds_in_3) m_rounds_in_6)
/-- found = {} -/
abbrev m_rounds_in_1 : Ss := (sSeq (sSet 1 (eBox (fun _ _ => M.pure (.dict [])))) m_rounds_in_2)
abbrev m_rounds_in : Ss := m_rounds_in_1
theorem is_rounds_in : fd19 = ⟨1, 6, true, m_rounds_in⟩ := by kernel_rfl
theorem c_rounds_in (k : Nat) : callD tbl (k + 1) i_rounds_in = runFn ⟨1, 6, true, m_rounds_in⟩ (callD tbl k) := (call_at (fd := fd19) rfl).trans (by rw [is_rounds_in])
/-! ### all_rounds : 0=net -/
/-- return tuple(sorted(rounds_in(net))) -/
abbrev m_all_rounds_2 : Ss := (sSeq (sRet (eBi [(eNew (nBi [(eCall i_rounds_in [(eVar 0)])] sortB))] tupleB)) sNext)
/-- need_net(net) -/
abbrev m_all_rounds_1 : Ss := (sSeq (sDrop (eCall i_need_net [(eVar 0)])) m_all_rounds_2)
abbrev m_all_rounds : Ss := m_all_rounds_1
theorem is_all_rounds : fd20 = ⟨1, 1, false, m_all_rounds⟩ := by kernel_rfl
theorem c_all_rounds (k : Nat) : callD tbl (k + 1) i_all_rounds = runFn ⟨1, 1, false, m_all_rounds⟩ (callD tbl k) := (call_at (fd := fd20) rfl).trans (by rw [is_all_rounds])
/-! ### still_rows : 0=net 1=row -/
/-- return tuple([row for row in rows_in(len(net)) if step_in(net, row) == row]) -/
abbrev m_still_rows_2 : Ss := (sSeq (sRet (eBi [(eNew (nComp [1] (iOf (eCall i_rows_in [(eBi [(eVar 0)] lenD)])) (.name 1) (tOf (eCmp .Eq (eCall i_step_in [(eVar 0), (eVar 1)]) (eVar 1))) (eVar 1)))] tupleB)) sNext)
/-- need_net(net) -/
abbrev m_still_rows_1 : Ss := (sSeq (sDrop (eCall i_need_net [(eVar 0)])) m_still_rows_2)
abbrev m_still_rows : Ss := m_still_rows_1
theorem is_still_rows : fd21 = ⟨1, 2, false, m_still_rows⟩ := by kernel_rfl
theorem c_still_rows (k : Nat) : callD tbl (k + 1) i_still_rows = runFn ⟨1, 2, false, m_still_rows⟩ (callD tbl k) := (call_at (fd := fd21) rfl).trans (by rw [is_still_rows])
/-! ### garden_rows : 0=net 1=met 2=row -/
/-- return tuple([row for row in rows_in(len(net)) if row not in met]) -/
abbrev m_garden_rows_3 : Ss := (sSeq (sRet (eBi [(eNew (nComp [2] (iOf (eCall i_rows_in [(eBi [(eVar 0)] lenD)])) (.name 2) (tOf (eCmp .NotIn (eVar 2) (eVar 1))) (eVar 2)))] tupleB)) sNext)
/-- met = dict([(step_in(net, row), True) for row in rows_in(len(net))]) -/
abbrev m_garden_rows_2 : Ss := (sSeq (sSet 1 (eBox (nBi [(eNew (nComp [2] (iOf (eCall i_rows_in [(eBi [(eVar 0)] lenD)])) (.name 2) cYes (eTup [(eCall i_step_in [(eVar 0), (eVar 2)]), (eD (.bool true))])))] dictB))) m_garden_rows_3)
/-- need_net(net) -/
abbrev m_garden_rows_1 : Ss := (sSeq (sDrop (eCall i_need_net [(eVar 0)])) m_garden_rows_2)
abbrev m_garden_rows : Ss := m_garden_rows_1
theorem is_garden_rows : fd22 = ⟨1, 3, false, m_garden_rows⟩ := by kernel_rfl
theorem c_garden_rows (k : Nat) : callD tbl (k + 1) i_garden_rows = runFn ⟨1, 3, false, m_garden_rows⟩ (callD tbl k) := (call_at (fd := fd22) rfl).trans (by rw [is_garden_rows])
/-! ### lots_of_rounds : 0=net 1=own 2=many -/
/-- return tuple([many for own, many in sorted(rounds_in(net).items())]) -/
abbrev m_lots_of_rounds_2 : Ss := (sSeq (sRet (eBi [(eNew (nComp [1, 2] (iOf (eNew (nBi [(eCall i_rounds_in [(eVar 0)])] sortItB))) (.tup [(.name 1), (.name 2)]) cYes (eVar 2)))] tupleB)) sNext)
/-- need_net(net) -/
abbrev m_lots_of_rounds_1 : Ss := (sSeq (sDrop (eCall i_need_net [(eVar 0)])) m_lots_of_rounds_2)
abbrev m_lots_of_rounds : Ss := m_lots_of_rounds_1
theorem is_lots_of_rounds : fd23 = ⟨1, 3, false, m_lots_of_rounds⟩ := by kernel_rfl
theorem c_lots_of_rounds (k : Nat) : callD tbl (k + 1) i_lots_of_rounds = runFn ⟨1, 3, false, m_lots_of_rounds⟩ (callD tbl k) := (call_at (fd := fd23) rfl).trans (by rw [is_lots_of_rounds])
/-! ### longest_tail : 0=net 1=row -/
/-- return max([steps_from(net, row)[1] for row in rows_in(len(net))]) -/
abbrev m_longest_tail_2 : Ss := (sSeq (sRet (eBi [(eNew (nComp [1] (iOf (eCall i_rows_in [(eBi [(eVar 0)] lenD)])) (.name 1) cYes (eItem (eCall i_steps_from [(eVar 0), (eVar 1)]) (eD (.int 1)))))] maxB)) sNext)
/-- need_net(net) -/
abbrev m_longest_tail_1 : Ss := (sSeq (sDrop (eCall i_need_net [(eVar 0)])) m_longest_tail_2)
abbrev m_longest_tail : Ss := m_longest_tail_1
theorem is_longest_tail : fd24 = ⟨1, 2, false, m_longest_tail⟩ := by kernel_rfl
theorem c_longest_tail (k : Nat) : callD tbl (k + 1) i_longest_tail = runFn ⟨1, 2, false, m_longest_tail⟩ (callD tbl k) := (call_at (fd := fd24) rfl).trans (by rw [is_longest_tail])
/-! ### _law_cup : 0=script 1=cell -/
/-- return [cell // 73 if cell >= 10 ** 18 else 0, int(cell * 283 + 3907) % 2077503167 + 167] -/
abbrev m__law_cup_2 : Ss := (sSeq (sRet (eBox (nList [(eIf (tOf (eCmp .GtE (eVar 1) (eBin .Pow (eD (.int 10)) (eD (.int 18))))) (eBin .FloorDiv (eVar 1) (eD (.int 73))) (eD (.int 0))), (eBin .Add (eBin .Mod (eBi [(eBin .Add (eBin .Mult (eVar 1) (eD (.int 283))) (eD (.int 3907)))] intB) (eD (.int 2077503167))) (eD (.int 167)))]))) sNext)
/-- cell = abs((list(script) + [0])[0]) -/
abbrev m__law_cup_1 : Ss := (sSeq (sSet 1 (eBi [(eItem (eBin .Add (eNew (nBi [(eVar 0)] listB)) (eNew (nList [(eD (.int 0))]))) (eD (.int 0)))] absD)) m__law_cup_2)
abbrev m__law_cup : Ss := m__law_cup_1
theorem is__law_cup : fd25 = ⟨1, 2, true, m__law_cup⟩ := by kernel_rfl
theorem c__law_cup (k : Nat) : callD tbl (k + 1) i__law_cup = runFn ⟨1, 2, true, m__law_cup⟩ (callD tbl k) := (call_at (fd := fd25) rfl).trans (by rw [is__law_cup])
/-! ### _law_roll : 0=cup 1=many 2=deep 3=found -/
/-- return found -/
abbrev m__law_roll_4 : Ss := (sSeq (sRet (eVar 3)) sNext)
/-- cup[0] = cup[0] // many -/
abbrev m__law_roll_3 : Ss := (sSeq (sPut (eVar 0) (eD (.int 0)) (eBin .FloorDiv (eItem (eVar 0) (eD (.int 0))) (eVar 1))) m__law_roll_4)
/-- found = int(cup[0]) % many -/
abbrev m__law_roll_2 : Ss := (sSeq (sSet 3 (eBin .Mod (eBi [(eItem (eVar 0) (eD (.int 0)))] intB) (eVar 1))) m__law_roll_3)
/-- return int(deep // 821) % many -/
abbrev m__law_roll_7 : Ss := (sSeq (sRet (eBin .Mod (eBi [(eBin .FloorDiv (eVar 2) (eD (.int 821)))] intB) (eVar 1))) sNext)
/-- deep = int(cup[1] * (cup[1] + 229)) % 2147483587 -/
abbrev m__law_roll_6 : Ss := (sSeq (sSet 2 (eBin .Mod (eBi [(eBin .Mult (eItem (eVar 0) (eD (.int 1))) (eBin .Add (eItem (eVar 0) (eD (.int 1))) (eD (.int 229))))] intB) (eD (.int 2147483587)))) m__law_roll_7)
/-- cup[1] = int(cup[1] * 31051 + 7993) % 2147483543 -/
abbrev m__law_roll_5 : Ss := (sSeq (sPut (eVar 0) (eD (.int 1)) (eBin .Mod (eBi [(eBin .Add (eBin .Mult (eItem (eVar 0) (eD (.int 1))) (eD (.int 31051))) (eD (.int 7993)))] intB) (eD (.int 2147483543)))) m__law_roll_6)
/-- if cup[0] > 0: -/
abbrev m__law_roll_1 : Ss := (sSeq (sIf (tOf (eCmp .Gt (eItem (eVar 0) (eD (.int 0))) (eD (.int 0)))) m__law_roll_2 sNext) m__law_roll_5)
abbrev m__law_roll : Ss := m__law_roll_1
theorem is__law_roll : fd26 = ⟨2, 4, false, m__law_roll⟩ := by kernel_rfl
theorem c__law_roll (k : Nat) : callD tbl (k + 1) i__law_roll = runFn ⟨2, 4, false, m__law_roll⟩ (callD tbl k) := (call_at (fd := fd26) rfl).trans (by rw [is__law_roll])
/-! ### _law_some : 0=cup 1=things -/
/-- return things[_law_roll(cup, len(things))] -/
abbrev m__law_some_1 : Ss := (sSeq (sRet (eItem (eVar 1) (eCall i__law_roll [(eVar 0), (eBi [(eVar 1)] lenD)]))) sNext)
abbrev m__law_some : Ss := m__law_some_1
theorem is__law_some : fd27 = ⟨2, 2, false, m__law_some⟩ := by kernel_rfl
theorem c__law_some (k : Nat) : callD tbl (k + 1) i__law_some = runFn ⟨2, 2, false, m__law_some⟩ (callD tbl k) := (call_at (fd := fd27) rfl).trans (by rw [is__law_some])
/-! ### _law_sort : 0=value -/
/-- return 0 if value is None else 1 -/
abbrev m__law_sort_2 : Ss := (sSeq (sRet (eIf (tOf (eCmp .Is (eVar 0) (eD .none))) (eD (.int 0)) (eD (.int 1)))) sNext)
/-- return 2 if isinstance(value, int) else 3 -/
abbrev m__law_sort_4 : Ss := (sSeq (sRet (eIf (tOf (eBi [(eVar 0)] (isaB .int))) (eD (.int 2)) (eD (.int 3)))) sNext)
/-- return 4 if isinstance(value, tuple) else 5 if isinstance(value, list) else 6 -/
abbrev m__law_sort_5 : Ss := (sSeq (sRet (eIf (tOf (eBi [(eVar 0)] (isaB .tuple))) (eD (.int 4)) (eIf (tOf (eBi [(eVar 0)] (isaB .list))) (eD (.int 5)) (eD (.int 6))))) sNext)
/-- if isinstance(value, int) or isinstance(value, str): -/
abbrev m__law_sort_3 : Ss := (sSeq (sIf (tOr (tOf (eBi [(eVar 0)] (isaB .int))) (tOf (eBi [(eVar 0)] (isaB .str)))) m__law_sort_4 sNext) m__law_sort_5)
/-- if value is None or isinstance(value, bool): -/
abbrev m__law_sort_1 : Ss := (sSeq (sIf (tOr (tOf (eCmp .Is (eVar 0) (eD .none))) (tOf (eBi [(eVar 0)] (isaB .bool)))) m__law_sort_2 sNext) m__law_sort_3)
abbrev m__law_sort : Ss := m__law_sort_1
theorem is__law_sort : fd28 = ⟨1, 1, false, m__law_sort⟩ := by kernel_rfl
theorem c__law_sort (k : Nat) : callD tbl (k + 1) i__law_sort = runFn ⟨1, 1, false, m__law_sort⟩ (callD tbl k) := (call_at (fd := fd28) rfl).trans (by rw [is__law_sort])
/-! ### _law_like : 0=one 1=other 2=sort 3=first 4=second -/
/-- return False -/
abbrev m__law_like_3 : Ss := (sSeq (sRet (eD (.bool false))) sNext)
/-- return len(one) == len(other) and [1 for first, second in zip(one, other) if not _law_like(first, second)] == [] -/
abbrev m__law_like_5 : Ss := (sSeq (sRet (eAnd (eCmp .Eq (eBi [(eVar 0)] lenD) (eBi [(eVar 1)] lenD)) (eCmp .Eq (eNew (nComp [3, 4] (iZip2 (eVar 0) (eVar 1)) (.tup [(.name 3), (.name 4)]) (tNot (tOf (eCall i__law_like [(eVar 3), (eVar 4)]))) (eD (.int 1)))) (eNew (nList []))))) sNext)
/-- return one == other -/
abbrev m__law_like_6 : Ss := (sSeq (sRet (eCmp .Eq (eVar 0) (eVar 1))) sNext)
/-- if sort in (4, 5): -/
abbrev m__law_like_4 : Ss := (sSeq (sIf (tOf (eCmp .In (eVar 2) (eTup [(eD (.int 4)), (eD (.int 5))]))) m__law_like_5 sNext) m__law_like_6)
/-- if _law_sort(one) != sort or sort == 6: -/
abbrev m__law_like_2 : Ss := (sSeq (sIf (tOr (tOf (eCmp .NotEq (eCall i__law_sort [(eVar 0)]) (eVar 2))) (tOf (eCmp .Eq (eVar 2) (eD (.int 6))))) m__law_like_3 sNext) m__law_like_4)
/-- sort = _law_sort(other) -/
abbrev m__law_like_1 : Ss := (sSeq (sSet 2 (eCall i__law_sort [(eVar 1)])) m__law_like_2)
abbrev m__law_like : Ss := m__law_like_1
theorem is__law_like : fd29 = ⟨2, 5, false, m__law_like⟩ := by kernel_rfl
theorem c__law_like (k : Nat) : callD tbl (k + 1) i__law_like = runFn ⟨2, 5, false, m__law_like⟩ (callD tbl k) := (call_at (fd := fd29) rfl).trans (by rw [is__law_like])
/-! ### _law_rows : 0=many 1=found 2=turn 3=longer 4=some -/
/-- longer = longer + [some + (0,), some + (1,)] -/
abbrev m__law_rows_5 : Ss := (sSeq (sSet 3 (eBin .Add (eVar 3) (eNew (nList [(eBin .Add (eVar 4) (eTup [(eD (.int 0))])), (eBin .Add (eVar 4) (eTup [(eD (.int 1))]))])))) sNext)
/-- found = longer -/
abbrev m__law_rows_6 : Ss := (sSeq (sSet 1 (eVar 3)) sNext)
/-- for some in found: -/
abbrev m__law_rows_4 : Ss := (sSeq (sFor (.name 4) (iOf (eVar 1)) m__law_rows_5) m__law_rows_6)
/-- longer = [] -/
abbrev m__law_rows_3 : Ss := (sSeq (sSet 3 (eNew (nList []))) m__law_rows_4)
/-- return found -/
abbrev m__law_rows_7 : Ss := (sSeq (sRet (eVar 1)) sNext)
/-- for turn in range(many): -/
abbrev m__law_rows_2 : Ss := (sSeq (sFor (.name 2) (iRange1 (eVar 0)) m__law_rows_3) m__law_rows_7)
/-- found = [()] -/
abbrev m__law_rows_1 : Ss := (sSeq (sSet 1 (eNew (nList [(eTup [])]))) m__law_rows_2)
abbrev m__law_rows : Ss := m__law_rows_1
theorem is__law_rows : fd30 = ⟨1, 5, false, m__law_rows⟩ := by kernel_rfl
theorem c__law_rows (k : Nat) : callD tbl (k + 1) i__law_rows = runFn ⟨1, 5, false, m__law_rows⟩ (callD tbl k) := (call_at (fd := fd30) rfl).trans (by rw [is__law_rows])
/-! ### _law_number : 0=row 1=found 2=sign -/
/-- found = 2 * found + sign -/
abbrev m__law_number_3 : Ss := (sSeq (sSet 1 (eBin .Add (eBin .Mult (eD (.int 2)) (eVar 1)) (eVar 2))) sNext)
/-- return found -/
abbrev m__law_number_4 : Ss := (sSeq (sRet (eVar 1)) sNext)
/-- for sign in row: -/
abbrev m__law_number_2 : Ss := (sSeq (sFor (.name 2) (iOf (eVar 0)) m__law_number_3) m__law_number_4)
/-- found = 0 -/
abbrev m__law_number_1 : Ss := (sSeq (sSet 1 (eD (.int 0))) m__law_number_2)
abbrev m__law_number : Ss := m__law_number_1
theorem is__law_number : fd31 = ⟨1, 3, false, m__law_number⟩ := by kernel_rfl
theorem c__law_number (k : Nat) : callD tbl (k + 1) i__law_number = runFn ⟨1, 3, false, m__law_number⟩ (callD tbl k) := (call_at (fd := fd31) rfl).trans (by rw [is__law_number])
/-! ### _law_at : 0=function 1=row -/
/-- return 1 if function[_law_number(row)] == '1' else 0 -/
abbrev m__law_at_1 : Ss := (sSeq (sRet (eIf (tOf (eCmp .Eq (eItem (eVar 0) (eCall i__law_number [(eVar 1)])) (eD (.str "1")))) (eD (.int 1)) (eD (.int 0)))) sNext)
abbrev m__law_at : Ss := m__law_at_1
theorem is__law_at : fd32 = ⟨2, 2, false, m__law_at⟩ := by kernel_rfl
theorem c__law_at (k : Nat) : callD tbl (k + 1) i__law_at = runFn ⟨2, 2, false, m__law_at⟩ (callD tbl k) := (call_at (fd := fd32) rfl).trans (by rw [is__law_at])
/-! ### _law_net : 0=cup 1=most 2=rows 3=sign 4=many 5=way 6=found 7=answers 8=row 9=one 10=other 11=turned 12=told -/
/-- answers = answers + str(told[way]) -/
abbrev m__law_net_8 : Ss := (sSeq (sSet 7 (eBin .Add (eVar 7) (eBi [(eItem (eVar 12) (eVar 5))] strB))) sNext)
/-- told = [_law_roll(cup, 2), 1 if _law_roll(cup, 4) == 0 else 0, int(row[one] + row[other] + turned) % 2, max(row[one], row[other])] -/
abbrev m__law_net_7 : Ss := (sSeq (sSet 12 (eNew (nList [(eCall i__law_roll [(eVar 0), (eD (.int 2))]), (eIf (tOf (eCmp .Eq (eCall i__law_roll [(eVar 0), (eD (.int 4))]) (eD (.int 0)))) (eD (.int 1)) (eD (.int 0))), (eBin .Mod (eBi [(eBin .Add (eBin .Add (eItem (eVar 8) (eVar 9)) (eItem (eVar 8) (eVar 10))) (eVar 11))] intB) (eD (.int 2))), (eBi [(eItem (eVar 8) (eVar 9)), (eItem (eVar 8) (eVar 10))] maxB)]))) m__law_net_8)
/-- found.append(answers) -/
abbrev m__law_net_9 : Ss := (sSeq (sDrop (eMut (eVar 6) [(eVar 7)] appendK)) sNext)
/-- for row in rows: -/
abbrev m__law_net_6 : Ss := (sSeq (sFor (.name 8) (iOf (eVar 2)) m__law_net_7) m__law_net_9)
/-- answers = '' -/
abbrev m__law_net_5 : Ss := (sSeq (sSet 7 (eD (.str ""))) m__law_net_6)
/-- one, other, turned = (_law_roll(cup, many), _law_roll(cup, many), _law_roll(cup, 2)) -/
abbrev m__law_net_4 : Ss := (sSeq (sPar [9, 10, 11] [(eCall i__law_roll [(eVar 0), (eVar 4)]), (eCall i__law_roll [(eVar 0), (eVar 4)]), (eCall i__law_roll [(eVar 0), (eD (.int 2))])]) m__law_net_5)
/-- return tuple(found) -/
abbrev m__law_net_10 : Ss := (sSeq (sRet (eBi [(eVar 6)] tupleB)) sNext)
/-- for sign in range(many): -/
abbrev m__law_net_3 : Ss := (sSeq (sFor (.name 3) (iRange1 (eVar 4)) m__law_net_4) m__law_net_10)
/-- rows = _law_rows(many) -/
abbrev m__law_net_2 : Ss := (sSeq (sSet 2 (eCall i__law_rows [(eVar 4)])) m__law_net_3)
/-- many, way, found = (_law_roll(cup, most + 1), _law_roll(cup, 4), []) -/
abbrev m__law_net_1 : Ss := (sSeq (sPar [4, 5, 6] [(eCall i__law_roll [(eVar 0), (eBin .Add (eVar 1) (eD (.int 1)))]), (eCall i__law_roll [(eVar 0), (eD (.int 4))]), (eBox (nList []))]) m__law_net_2)
abbrev m__law_net : Ss := m__law_net_1
theorem is__law_net : fd33 = ⟨2, 13, false, m__law_net⟩ := by kernel_rfl
theorem c__law_net (k : Nat) : callD tbl (k + 1) i__law_net = runFn ⟨2, 13, false, m__law_net⟩ (callD tbl k) := (call_at (fd := fd33) rfl).trans (by rw [is__law_net])
/-! ### _law_step : 0=net 1=row 2=own -/
/-- return tuple([_law_at(own, row) for own in net]) -/
abbrev m__law_step_1 : Ss := (sSeq (sRet (eBi [(eNew (nComp [2] (iOf (eVar 0)) (.name 2) cYes (eCall i__law_at [(eVar 2), (eVar 1)])))] tupleB)) sNext)
abbrev m__law_step : Ss := m__law_step_1
theorem is__law_step : fd34 = ⟨2, 3, false, m__law_step⟩ := by kernel_rfl
theorem c__law_step (k : Nat) : callD tbl (k + 1) i__law_step = runFn ⟨2, 3, false, m__law_step⟩ (callD tbl k) := (call_at (fd := fd34) rfl).trans (by rw [is__law_step])
/-! ### _law_walk : 0=net 1=row 2=found -/
/-- found.append(_law_step(net, found[-1])) -/
abbrev m__law_walk_3 : Ss := (sSeq (sDrop (eMut (eVar 2) [(eCall i__law_step [(eVar 0), (eItem (eVar 2) (e1 (eD (.int 1)) negD))])] appendK)) sNext)
/-- return (found, found.index(_law_step(net, found[-1]))) -/
abbrev m__law_walk_4 : Ss := (sSeq (sRet (eTup [(eVar 2), (eMeth (eVar 2) [(eCall i__law_step [(eVar 0), (eItem (eVar 2) (e1 (eD (.int 1)) negD))])] indexM)])) sNext)
/-- while _law_step(net, found[-1]) not in found: -/
abbrev m__law_walk_2 : Ss := (sSeq (sWhile (tOf (eCmp .NotIn (eCall i__law_step [(eVar 0), (eItem (eVar 2) (e1 (eD (.int 1)) negD))]) (eVar 2))) m__law_walk_3) m__law_walk_4)
/-- found = [row] -/
abbrev m__law_walk_1 : Ss := (sSeq (sSet 2 (eBox (nList [(eVar 1)]))) m__law_walk_2)
abbrev m__law_walk : Ss := m__law_walk_1
theorem is__law_walk : fd35 = ⟨2, 3, false, m__law_walk⟩ := by kernel_rfl
theorem c__law_walk (k : Nat) : callD tbl (k + 1) i__law_walk = runFn ⟨2, 3, false, m__law_walk⟩ (callD tbl k) := (call_at (fd := fd35) rfl).trans (by rw [is__law_walk])
/-! ### _law_right : 0=net 1=row 2=steps 3=still 4=gardens 5=told 6=rows 7=lots 8=longest 9=whole 10=at 11=own 12=walk 13=begin 14=step -/
/-- longest = max(longest, begin) -/
abbrev m__law_right_8 : Ss := (sSeq (sSet 8 (eBi [(eVar 8), (eVar 13)] maxB)) sNext)
/-- lots[own] = lots.get(own, 0) + 1 -/
abbrev m__law_right_7 : Ss := (sSeq (sPut (eVar 7) (eVar 11) (eBin .Add (eMeth (eVar 7) [(eVar 11), (eD (.int 0))] getM) (eD (.int 1)))) m__law_right_8)
/-- own = tuple(whole[at:] + whole[:at]) -/
abbrev m__law_right_6 : Ss := (sSeq (sSet 11 (eBi [(eBin .Add (eSlice (eVar 9) (some (eVar 10)) none) (eSlice (eVar 9) none (some (eVar 10))))] tupleB)) m__law_right_7)
/-- at = whole.index(min(whole)) -/
abbrev m__law_right_5 : Ss := (sSeq (sSet 10 (eMeth (eVar 9) [(eBi [(eVar 9)] minB)] indexM)) m__law_right_6)
/-- whole = walk[begin:] -/
abbrev m__law_right_4 : Ss := (sSeq (sSet 9 (eSlice (eVar 12) (some (eVar 13)) none)) m__law_right_5)
/-- walk, begin = _law_walk(net, row) -/
abbrev m__law_right_3 : Ss := (sSeq (sAsg (.tup [(.name 12), (.name 13)]) (eCall i__law_walk [(eVar 0), (eVar 1)])) m__law_right_4)
/-- return False -/
abbrev m__law_right_14 : Ss := (sSeq (sRet (eD (.bool false))) sNext)
/-- return False -/
abbrev m__law_right_16 : Ss := (sSeq (sRet (eD (.bool false))) sNext)
/-- return gardens == () or max([tail_length(net, row) for row in gardens]) == longest -/
abbrev m__law_right_17 : Ss := (sSeq (sRet (eOr (eCmp .Eq (eVar 4) (eTup [])) (eCmp .Eq (eBi [(eNew (nComp [1] (iOf (eVar 4)) (.name 1) cYes (eCall i_tail_length [(eVar 0), (eVar 1)])))] maxB) (eVar 8)))) sNext)
/-- if (gardens != ()) != (len(set(steps)) < len(steps)) or (longest > 0) != (gardens != ()): -/
abbrev m__law_right_15 : Ss := (sSeq (sIf (tOr (tOf (eCmp .NotEq (eCmp .NotEq (eVar 4) (eTup [])) (eCmp .Lt (eBi [(eVar 2)] lenSetB) (eBi [(eVar 2)] lenD)))) (tOf (eCmp .NotEq (eCmp .Gt (eVar 8) (eD (.int 0))) (eCmp .NotEq (eVar 4) (eTup []))))) m__law_right_16 sNext) m__law_right_17)
/-- if not _law_like(told, [tuple(sorted(lots)), tuple([lots[own] for own in sorted(lots)]), still, gardens, longest]): -/
abbrev m__law_right_13 : Ss := (sSeq (sIf (tNot (tOf (eCall i__law_like [(eVar 5), (eNew (nList [(eBi [(eNew (nBi [(eVar 7)] sortB))] tupleB), (eBi [(eNew (nComp [11] (iOf (eNew (nBi [(eVar 7)] sortB))) (.name 11) cYes (eItem (eVar 7) (eVar 11))))] tupleB), (eVar 3), (eVar 4), (eVar 8)]))]))) m__law_right_14 sNext) m__law_right_15)
/-- told = [all_rounds(net), lots_of_rounds(net), still_rows(net), garden_rows(net), longest_tail(net)] -/
abbrev m__law_right_12 : Ss := (sSeq (sSet 5 (eNew (nList [(eCall i_all_rounds [(eVar 0)]), (eCall i_lots_of_rounds [(eVar 0)]), (eCall i_still_rows [(eVar 0)]), (eCall i_garden_rows [(eVar 0)]), (eCall i_longest_tail [(eVar 0)])]))) m__law_right_13)
/-- gardens = tuple([row for row in rows if row not in steps]) -/
abbrev m__law_right_11 : Ss := (sSeq (sSet 4 (eBi [(eNew (nComp [1] (iOf (eVar 6)) (.name 1) (tOf (eCmp .NotIn (eVar 1) (eVar 2))) (eVar 1)))] tupleB)) m__law_right_12)
/-- still = tuple([row for row, step in zip(rows, steps) if row == step]) -/
abbrev m__law_right_10 : Ss := (sSeq (sSet 3 (eBi [(eNew (nComp [1, 14] (iZip2 (eVar 6) (eVar 2)) (.tup [(.name 1), (.name 14)]) (tOf (eCmp .Eq (eVar 1) (eVar 14))) (eVar 1)))] tupleB)) m__law_right_11)
/-- steps = [_law_step(net, row) for row in rows] -/
abbrev m__law_right_9 : Ss := (sSeq (sSet 2 (eNew (nComp [1] (iOf (eVar 6)) (.name 1) cYes (eCall i__law_step [(eVar 0), (eVar 1)])))) m__law_right_10)
/-- for row in rows: -/
abbrev m__law_right_2 : Ss := (sSeq (sFor (.name 1) (iOf (eVar 6)) m__law_right_3) m__law_right_9)
/-- rows, lots, longest = (_law_rows(len(net)), {}, 0) -/
abbrev m__law_right_1 : Ss := (sSeq (sPar [6, 7, 8] [(eCall i__law_rows [(eBi [(eVar 0)] lenD)]), (eBox (fun _ _ => M.pure (.dict []))), (eD (.int 0))]) m__law_right_2)
abbrev m__law_right : Ss := m__law_right_1
theorem is__law_right : fd36 = ⟨1, 15, false, m__law_right⟩ := by kernel_rfl
theorem c__law_right (k : Nat) : callD tbl (k + 1) i__law_right = runFn ⟨1, 15, false, m__law_right⟩ (callD tbl k) := (call_at (fd := fd36) rfl).trans (by rw [is__law_right])
/-! ### _law_turned_right : 0=cup 1=net 2=many 3=found 4=sign 5=other 6=told 7=due 8=left 9=order 10=answers 11=row 12=old 13=own -/
/-- order.append(left.pop(_law_roll(cup, len(left)))) -/
abbrev m__law_turned_right_4 : Ss := (sSeq (sDrop (eMut (eVar 9) [(eMut (eVar 8) [(eCall i__law_roll [(eVar 0), (eBi [(eVar 8)] lenD)])] popAtK)] appendK)) sNext)
/-- answers = answers + str(_law_at(net[order[sign]], old)) -/
abbrev m__law_turned_right_10 : Ss := (sSeq (sSet 10 (eBin .Add (eVar 10) (eBi [(eCall i__law_at [(eItem (eVar 1) (eItem (eVar 9) (eVar 4))), (eVar 12)])] strB))) sNext)
/-- old = tuple([row[order.index(own)] for own in range(many)]) -/
abbrev m__law_turned_right_9 : Ss := (sSeq (sSet 12 (eBi [(eNew (nComp [13] (iRange1 (eVar 2)) (.name 13) cYes (eItem (eVar 11) (eMeth (eVar 9) [(eVar 13)] indexM))))] tupleB)) m__law_turned_right_10)
/-- found.append(answers) -/
abbrev m__law_turned_right_11 : Ss := (sSeq (sDrop (eMut (eVar 3) [(eVar 10)] appendK)) sNext)
/-- for row in _law_rows(many): -/
abbrev m__law_turned_right_8 : Ss := (sSeq (sFor (.name 11) (iOf (eCall i__law_rows [(eVar 2)])) m__law_turned_right_9) m__law_turned_right_11)
/-- answers = '' -/
abbrev m__law_turned_right_7 : Ss := (sSeq (sSet 10 (eD (.str ""))) m__law_turned_right_8)
/-- return _law_like(told, due) and len(still_rows(other)) == len(still_rows(net)) -/
abbrev m__law_turned_right_15 : Ss := (sSeq (sRet (eAnd (eCall i__law_like [(eVar 6), (eVar 7)]) (eCmp .Eq (eBi [(eCall i_still_rows [(eVar 5)])] lenD) (eBi [(eCall i_still_rows [(eVar 1)])] lenD)))) sNext)
/-- due = [sorted([len(own) for own in all_rounds(net)]), sorted(lots_of_rounds(net)), len(garden_rows(net)), longest_tail(net)] -/
abbrev m__law_turned_right_14 : Ss := (sSeq (sSet 7 (eNew (nList [(eNew (nBi [(eNew (nComp [13] (iOf (eCall i_all_rounds [(eVar 1)])) (.name 13) cYes (eBi [(eVar 13)] lenD)))] sortB)), (eNew (nBi [(eCall i_lots_of_rounds [(eVar 1)])] sortB)), (eBi [(eCall i_garden_rows [(eVar 1)])] lenD), (eCall i_longest_tail [(eVar 1)])]))) m__law_turned_right_15)
/-- told = [sorted([len(own) for own in all_rounds(other)]), sorted(lots_of_rounds(other)), len(garden_rows(other)), longest_tail(other)] -/
abbrev m__law_turned_right_13 : Ss := (sSeq (sSet 6 (eNew (nList [(eNew (nBi [(eNew (nComp [13] (iOf (eCall i_all_rounds [(eVar 5)])) (.name 13) cYes (eBi [(eVar 13)] lenD)))] sortB)), (eNew (nBi [(eCall i_lots_of_rounds [(eVar 5)])] sortB)), (eBi [(eCall i_garden_rows [(eVar 5)])] lenD), (eCall i_longest_tail [(eVar 5)])]))) m__law_turned_right_14)
/-- other = tuple(found) -/
abbrev m__law_turned_right_12 : Ss := (sSeq (sSet 5 (eBi [(eVar 3)] tupleB)) m__law_turned_right_13)
/-- for sign in range(many): -/
abbrev m__law_turned_right_6 : Ss := (sSeq (sFor (.name 4) (iRange1 (eVar 2)) m__law_turned_right_7) m__law_turned_right_12)
/-- found = [] -/
abbrev m__law_turned_right_5 : Ss := (sSeq (sSet 3 (eBox (nList []))) m__law_turned_right_6)
/-- while left != []: -/
abbrev m__law_turned_right_3 : Ss := (sSeq (sWhile (tOf (eCmp .NotEq (eVar 8) (eNew (nList [])))) m__law_turned_right_4) m__law_turned_right_5)
/-- left, order = (list(range(many)), []) -/
abbrev m__law_turned_right_2 : Ss := (sSeq (sPar [8, 9] [(eBox (nBi [(eVar 2)] rangeB)), (eBox (nList []))]) m__law_turned_right_3)
/-- many = len(net) -/
abbrev m__law_turned_right_1 : Ss := (sSeq (sSet 2 (eBi [(eVar 1)] lenD)) m__law_turned_right_2)
abbrev m__law_turned_right : Ss := m__law_turned_right_1
theorem is__law_turned_right : fd37 = ⟨2, 14, false, m__law_turned_right⟩ := by kernel_rfl
theorem c__law_turned_right (k : Nat) : callD tbl (k + 1) i__law_turned_right = runFn ⟨2, 14, false, m__law_turned_right⟩ (callD tbl k) := (call_at (fd := fd37) rfl).trans (by rw [is__law_turned_right])
/-! ### law : 0=script 1=cup 2=told 3=due 4=most 5=many 6=ring 7=row 8=swap 9=both 10=net 11=sign -/
/-- return False -/
abbrev m_law_6 : Ss := (sSeq (sRet (eD (.bool false))) sNext)
/-- return False -/
abbrev m_law_8 : Ss := (sSeq (sRet (eD (.bool false))) sNext)
/-- return False -/
abbrev m_law_12 : Ss := (sSeq (sRet (eD (.bool false))) sNext)
/-- if not _law_right(net) or not _law_turned_right(cup, net): -/
abbrev m_law_11 : Ss := (sSeq (sIf (tOr (tNot (tOf (eCall i__law_right [(eVar 10)]))) (tNot (tOf (eCall i__law_turned_right [(eVar 1), (eVar 10)])))) m_law_12 sNext) sNext)
/-- net = _law_net(cup, most) -/
abbrev m_law_10 : Ss := (sSeq (sSet 10 (eCall i__law_net [(eVar 1), (eVar 4)])) m_law_11)
/-- return False -/
abbrev m_law_17 : Ss := (sSeq (sRet (eD (.bool false))) sNext)
/-- return len(all_rounds(ring)) == [2, 3, 4, 6, 8][many - 1] and many % len(round_from(ring, row)) == 0 -/
abbrev m_law_18 : Ss := (sSeq (sRet (eAnd (eCmp .Eq (eBi [(eCall i_all_rounds [(eVar 6)])] lenD) (eItem (eNew (nList [(eD (.int 2)), (eD (.int 3)), (eD (.int 4)), (eD (.int 6)), (eD (.int 8))])) (eBin .Sub (eVar 5) (eD (.int 1))))) (eCmp .Eq (eBin .Mod (eVar 5) (eBi [(eCall i_round_from [(eVar 6), (eVar 7)])] lenD)) (eD (.int 0))))) sNext)
/-- if not _law_like([next_row(ring, row), garden_rows(ring), still_rows(ring)], [row[1:] + row[:1], (), ((0,) * many, (1,) * many)]): -/
abbrev m_law_16 : Ss := (sSeq (sIf (tNot (tOf (eCall i__law_like [(eNew (nList [(eCall i_next_row [(eVar 6), (eVar 7)]), (eCall i_garden_rows [(eVar 6)]), (eCall i_still_rows [(eVar 6)])])), (eNew (nList [(eBin .Add (eSlice (eVar 7) (some (eD (.int 1))) none) (eSlice (eVar 7) none (some (eD (.int 1))))), (eTup []), (eTup [(eBin .Mult (eTup [(eD (.int 0))]) (eVar 5)), (eBin .Mult (eTup [(eD (.int 1))]) (eVar 5))])]))]))) m_law_17 sNext) m_law_18)
/-- row = _law_some(cup, _law_rows(many)) -/
abbrev m_law_15 : Ss := (sSeq (sSet 7 (eCall i__law_some [(eVar 1), (eCall i__law_rows [(eVar 5)])])) m_law_16)
/-- ring = tuple([''.join([str(row[int(sign + 1) % many]) for row in _law_rows(many)]) for sign in range(many)]) -/
abbrev m_law_14 : Ss := (sSeq (sSet 6 (eBi [(eNew (nComp [11] (iRange1 (eVar 5)) (.name 11) cYes (eMeth (eD (.str "")) [(eNew (nComp [7] (iOf (eCall i__law_rows [(eVar 5)])) (.name 7) cYes (eBi [(eItem (eVar 7) (eBin .Mod (eBi [(eBin .Add (eVar 11) (eD (.int 1)))] intB) (eVar 5)))] strB)))] joinM)))] tupleB)) m_law_15)
/-- many = 1 + _law_roll(cup, 5) -/
abbrev m_law_13 : Ss := (sSeq (sSet 5 (eBin .Add (eD (.int 1)) (eCall i__law_roll [(eVar 1), (eD (.int 5))]))) m_law_14)
/-- for most in (1, 2, 3, 4, 5): -/
abbrev m_law_9 : Ss := (sSeq (sFor (.name 4) (iOf (eTup [(eD (.int 1)), (eD (.int 2)), (eD (.int 3)), (eD (.int 4)), (eD (.int 5))])) m_law_10) m_law_13)
/-- if not _law_like([garden_rows(('11',)), garden_rows(('00',)), longest_tail(('11',))], [((0,),), ((1,),), 1]): -/
abbrev m_law_7 : Ss := (sSeq (sIf (tNot (tOf (eCall i__law_like [(eNew (nList [(eCall i_garden_rows [(eTup [(eD (.str "11"))])]), (eCall i_garden_rows [(eTup [(eD (.str "00"))])]), (eCall i_longest_tail [(eTup [(eD (.str "11"))])])])), (eNew (nList [(eTup [(eTup [(eD (.int 0))])]), (eTup [(eTup [(eD (.int 1))])]), (eD (.int 1))]))]))) m_law_8 sNext) m_law_9)
/-- if not _law_like(told + [longest_tail(both), lots_of_rounds(both)], due + [1, (1, 2, 1)]): -/
abbrev m_law_5 : Ss := (sSeq (sIf (tNot (tOf (eCall i__law_like [(eBin .Add (eVar 2) (eNew (nList [(eCall i_longest_tail [(eVar 9)]), (eCall i_lots_of_rounds [(eVar 9)])]))), (eBin .Add (eVar 3) (eNew (nList [(eD (.int 1)), (eTup [(eD (.int 1)), (eD (.int 2)), (eD (.int 1))])])))]))) m_law_6 sNext) m_law_7)
/-- due = [(((0, 0),), ((0, 1), (1, 0)), ((1, 1),)), ((0, 0), (1, 1)), (), (1, 2, 1), 0, (((),),), ((1, 0),)] -/
abbrev m_law_4 : Ss := (sSeq (sSet 3 (eNew (nList [(eTup [(eTup [(eTup [(eD (.int 0)), (eD (.int 0))])]), (eTup [(eTup [(eD (.int 0)), (eD (.int 1))]), (eTup [(eD (.int 1)), (eD (.int 0))])]), (eTup [(eTup [(eD (.int 1)), (eD (.int 1))])])]), (eTup [(eTup [(eD (.int 0)), (eD (.int 0))]), (eTup [(eD (.int 1)), (eD (.int 1))])]), (eTup []), (eTup [(eD (.int 1)), (eD (.int 2)), (eD (.int 1))]), (eD (.int 0)), (eTup [(eTup [(eTup [])])]), (eTup [(eTup [(eD (.int 1)), (eD (.int 0))])])]))) m_law_5)
/-- told = [all_rounds(swap), still_rows(swap), garden_rows(swap), lots_of_rounds(swap), longest_tail(swap), all_rounds(()), garden_rows(both)] -/
abbrev m_law_3 : Ss := (sSeq (sSet 2 (eNew (nList [(eCall i_all_rounds [(eVar 8)]), (eCall i_still_rows [(eVar 8)]), (eCall i_garden_rows [(eVar 8)]), (eCall i_lots_of_rounds [(eVar 8)]), (eCall i_longest_tail [(eVar 8)]), (eCall i_all_rounds [(eTup [])]), (eCall i_garden_rows [(eVar 9)])]))) m_law_4)
/-- swap, both = (('0101', '0011'), ('0001', '0111')) -/
abbrev m_law_2 : Ss := (sSeq (sPar [8, 9] [(eTup [(eD (.str "0101")), (eD (.str "0011"))]), (eTup [(eD (.str "0001")), (eD (.str "0111"))])]) m_law_3)
/-- cup = _law_cup(script) -/
abbrev m_law_1 : Ss := (sSeq (sSet 1 (eCall i__law_cup [(eVar 0)])) m_law_2)
abbrev m_law : Ss := m_law_1
theorem is_law : fd38 = ⟨1, 12, false, m_law⟩ := by kernel_rfl
theorem c_law (k : Nat) : callD tbl (k + 1) i_law = runFn ⟨1, 12, false, m_law⟩ (callD tbl k) := (call_at (fd := fd38) rfl).trans (by rw [is_law])
end Law

set_option Elab.async false
set_option linter.all false
set_option maxRecDepth 100000
set_option maxHeartbeats 1000000
namespace Law
open PySem Ev
/-! ### what the small defs answer -/
def intIn (lo hi : Int) : PyData → Bool
  | .int i => decide (lo ≤ i) && decide (i ≤ hi)
  | _ => false
def isIntD : PyData → Bool
  | .int _ => true
  | _ => false
def tupIn (lo hi : Int) : PyData → Bool
  | .tuple xs => decide (lo ≤ (xs.length : Int)) && decide ((xs.length : Int) ≤ hi)
  | _ => false
section
variable (k : Nat) (st : Store)
theorem isa_d {T : Ty} {x : PyData} (hx : isDict x = false) : isaB T [x] = some (.bool (isaD T x)) := by
  cases x <;> first | rfl | cases hx
theorem run_is_integer {x : PyData} (hx : isDict x = false) : callD tbl (k + 1) i_is_integer [.d x] st = .ok (.d (.bool (isIntD x))) st := by
  rw [c_is_integer]
  have e : isIntD x = (isaD .int x && !isaD .bool x) := by cases x <;> rfl
  rw [e]
  exact fn_d0 rfl (seq_ret (ret_run (and_run (bi1 rfl (isa_d hx)) fun _ => not_run (bi1 rfl (isa_d hx)))))
theorem run_is_whole {x : PyData} (hx : isDict x = false) (lo hi : Int) : callD tbl (k + 2) i_is_whole [.d x, .d (.int lo), .d (.int hi)] st = .ok (.d (.bool (intIn lo hi x))) st := by
  rw [c_is_whole]
  cases h : isIntD x with
  | false =>
    have e : intIn lo hi x = false := by cases x <;> first | rfl | cases h
    rw [e]
    exact fn_d0 rfl (seq_ret (ret_run (and_f (call1 rfl (by rw [run_is_integer _ _ hx, h])))))
  | true =>
    obtain ⟨i, rfl⟩ : ∃ i, x = .int i := by cases x <;> first | exact ⟨_, rfl⟩ | cases h
    exact fn_d0 rfl (seq_ret (ret_run (and_t (call1 rfl (run_is_integer _ _ hx)) (chain_run rfl rfl rfl (fun _ => rfl) (fun _ => rfl)))))
theorem run_is_tuple_of {x : PyData} (hx : isDict x = false) (lo hi : Int) : callD tbl (k + 1) i_is_tuple_of [.d x, .d (.int lo), .d (.int hi)] st = .ok (.d (.bool (tupIn lo hi x))) st := by
  rw [c_is_tuple_of]
  cases h : isaD .tuple x with
  | false =>
    have e : tupIn lo hi x = false := by cases x <;> first | rfl | cases h
    rw [e]
    exact fn_d0 rfl (seq_ret (ret_run (and_f (bi1 rfl (by rw [isa_d hx, h])))))
  | true =>
    obtain ⟨i, rfl⟩ : ∃ i, x = .tuple i := by cases x <;> first | exact ⟨_, rfl⟩ | cases h
    exact fn_d0 rfl (seq_ret (ret_run (and_t (bi1 rfl rfl) (chain_run rfl (bi1 rfl rfl) rfl (fun _ => rfl) (fun _ => rfl)))))
/-- a sign among signs -/
def inS (y : Str) (c : Nat) : Bool := !(Builtin.Str.occurrences y ⟨#[c]⟩ 0 y.length 1).isEmpty
/-- a text within bounds, its signs among y -/
def wordIn (y : Str) (lo hi : Int) : PyData → Bool
  | .str z => (decide (lo ≤ (z.length : Int)) && decide ((z.length : Int) ≤ hi)) && z.cps.toList.all (inS y)
  | _ => false
theorem all_bools : ∀ {α : Type} (l : List α) (p : α → Bool), allB [.list (l.map fun c => .bool (p c))] = some (.bool (l.all p)) := by
  intro α l p
  have h : boolsOf (l.map fun c => PyData.bool (p c)) = some (l.map p) := by
    induction l with
    | nil => rfl
    | cons a l ih =>
      rw [List.map_cons, List.map_cons]
      show (boolsOf _).map _ = _
      rw [ih]
      rfl
  show (boolsOf _).map _ = _
  rw [h]
  simp
theorem run_is_word {x : PyData} (hx : isDict x = false) (hz : ∀ z, x = .str z → z.length ≤ sizeLine) (y : Str) (lo hi : Int) : callD tbl (k + 1) i_is_word [.d x, .d (.str y), .d (.int lo), .d (.int hi)] st = .ok (.d (.bool (wordIn y lo hi x))) st := by
  rw [c_is_word]
  cases h : isaD .str x with
  | false =>
    have e : wordIn y lo hi x = false := by cases x <;> first | rfl | cases h
    rw [e]
    exact fn_d0 rfl (seq_ret (ret_run (and_f (bi1 rfl (by rw [isa_d hx, h])))))
  | true =>
    obtain ⟨z, rfl⟩ : ∃ z, x = .str z := by cases x <;> first | exact ⟨_, rfl⟩ | cases h
    have hl : lenD [.str z] = some (.int z.length) := if_pos (hz z rfl)
    have hi' : itemsOf (.str z) = some (signsOf z) := if_pos (hz z rfl)
    refine fn_d0 rfl (seq_ret (ret_run (and_t (bi1 rfl rfl) (and_run (chain_run rfl (bi1 rfl hl) rfl (fun _ => rfl) (fun _ => rfl)) fun _ => ?_))))
    refine bi1 (new_run (ncomp_run (iof_d rfl hi') (comp_map (f := fun w => match w with | .str q => .bool (!(Builtin.Str.occurrences y q 0 y.length 1).isEmpty) | _ => .none) fun w hw => ?_))) ?_
    · obtain ⟨c, hc, rfl⟩ := List.mem_map.mp hw
      exact ⟨_, rfl, rfl, elt_run (cmp_run rfl rfl rfl)⟩
    · unfold signsOf
      rw [List.map_map]
      exact all_bools z.cps.toList (inS y)
/-! ### which values are nets -/
def lens : List PyData := [.int 1, .int 2, .int 4, .int 8, .int 16, .int 32, .int 64]
def lenOk (n : Nat) : Bool := n == 1 || n == 2 || n == 4 || n == 8 || n == 16 || n == 32 || n == 64
theorem eqv_nat (m n : Nat) : PyData.eqv (.int m) (.int n) = (n == m) := by
  simp only [PyData.eqv]
  by_cases h : n = m
  · subst h; simp
  · have h2 : ¬ (m : Int) = n := fun z => h (by omega)
    rw [beq_eq_false_iff_ne.mpr h]
    simpa using h2
theorem cmp_eq_nat (m n : Nat) : cmpD .Eq (.int m) (.int n) = some (m == n) := by
  simp only [cmpD, isDict, cmpP, eqD, shallow, PyData.depth, eqv_nat]
  rw [if_pos (by simp)]
  rw [BEq.comm]
theorem in_lens (n : Nat) : cmpD .In (.int n) (.tuple lens) = some (lenOk n) := by
  have e : (lens.any fun z => PyData.eqv z (.int n)) = lenOk n := by
    show (PyData.eqv (.int (1 : Nat)) (.int n) || (PyData.eqv (.int (2 : Nat)) (.int n) || (PyData.eqv (.int (4 : Nat)) (.int n) || (PyData.eqv (.int (8 : Nat)) (.int n) || (PyData.eqv (.int (16 : Nat)) (.int n) || (PyData.eqv (.int (32 : Nat)) (.int n) || (PyData.eqv (.int (64 : Nat)) (.int n) || false))))))) = _
    simp only [eqv_nat, lenOk, Bool.or_false, Bool.or_assoc]
  show (if (shallow (.int n) && shallow (.tuple lens)) = true then some (lens.any fun z => PyData.eqv z (.int n)) else none) = _
  rw [e, if_pos]
  simp [shallow, PyData.depth, PyData.depthAll, lens]
def fitsF (x : PyData) : Bool := wordIn "01" 1 64 x && (match x with | .str z => lenOk z.length | _ => false)
theorem run_fits_function {x : PyData} (hx : isDict x = false) (hz : ∀ z, x = .str z → z.length ≤ sizeLine) : callD tbl (k + 2) i_fits_function [.d x] st = .ok (.d (.bool (fitsF x))) st := by
  rw [c_fits_function]
  unfold fitsF
  refine fn_d0 rfl (seq_ret (ret_run (and_run (call4 rfl rfl rfl (e2_run rfl rfl rfl) (run_is_word k st hx hz "01" 1 64)) fun hw => ?_)))
  obtain ⟨z, rfl⟩ : ∃ z, x = .str z := by cases x <;> first | exact ⟨_, rfl⟩ | cases hw
  have hl : lenD [.str z] = some (.int z.length) := if_pos (hz z rfl)
  exact cmp_run (bi1 rfl hl) rfl (in_lens z.length)
theorem lenOk_cases {n : Nat} (h : lenOk n = true) : n = 1 ∨ n = 2 ∨ n = 4 ∨ n = 8 ∨ n = 16 ∨ n = 32 ∨ n = 64 := by
  simp only [lenOk, Bool.or_eq_true, beq_iff_eq] at h
  omega
def lg (n : Nat) : Nat := if n = 1 then 0 else if n = 2 then 1 else if n = 4 then 2 else if n = 8 then 3 else if n = 16 then 4 else if n = 32 then 5 else 6
theorem idx_lens {n : Nat} (h : lenOk n = true) : indexT [.tuple lens, .int n] = some (.int (lg n)) := by
  have sh : (shallow (.int n) && !isDict (.int n)) = true := by simp [shallow, PyData.depth, isDict]
  show (if (shallow (.int n) && !isDict (.int n)) = true then (Ev.placeOf (.int n) lens).map (fun (j : Nat) => PyData.int (j : Int)) else none) = _
  rw [if_pos sh]
  have e : Ev.placeOf (.int n) lens = some (lg n) := by
    unfold Ev.placeOf
    rcases lenOk_cases h with rfl | rfl | rfl | rfl | rfl | rfl | rfl <;> simp [lens, PyData.eqv, List.findIdx?_cons, lg]
  rw [e]
  rfl
theorem run_count_in {z : Str} (hz : z.length ≤ sizeLine) (h : lenOk z.length = true) : callD tbl (k + 1) i_count_in [.d (.str z)] st = .ok (.d (.int (lg z.length))) st := by
  rw [c_count_in]
  exact fn_d0 rfl (seq_ret (ret_run (bi2 rfl (bi1 rfl (if_pos hz)) (idx_lens h))))
/-- a datum that may be told as a net or none -/
def Ok1 (x : PyData) : Prop := isDict x = false ∧ ∀ z, x = .str z → z.length ≤ sizeLine
def Ok2 (x : PyData) : Prop := isDict x = false ∧ ∀ xs, x = .tuple xs → ∀ y ∈ xs, Ok1 y
def strLen : PyData → Nat
  | .str z => z.length
  | _ => 0
def netB : PyData → Bool
  | .tuple xs => decide (xs.length ≤ 5) && (xs.all fitsF && xs.all fun y => lg (strLen y) == xs.length)
  | _ => false
theorem fits_str {y : PyData} (h : fitsF y = true) : ∃ z, y = .str z ∧ lenOk z.length = true := by
  unfold fitsF at h
  cases y with
  | str z =>
    rw [Bool.and_eq_true] at h
    exact ⟨z, rfl, h.2⟩
  | _ => cases h
theorem run_fits_net {x : PyData} (hx : Ok2 x) : callD tbl (k + 3) i_fits_net [.d x] st = .ok (.d (.bool (netB x))) st := by
  rw [c_fits_net]
  have t3 := run_is_tuple_of (k + 1) st hx.1 0 5
  cases x with
  | tuple xs =>
    have hok := hx.2 xs rfl
    have a5 : compLoop (fun x => asgD (.name 1) x (wipeE [some (.d (.tuple xs)), none] [1])) (cYes (callD tbl (k + 2))) (eltD (eCall i_fits_function [eVar 1]) (callD tbl (k + 2))) xs st = .ok (xs.map fun y => .bool (fitsF y)) st :=
      comp_map fun y hy => ⟨_, rfl, rfl, elt_run (call1 rfl (run_fits_function k st (hok y hy).1 (hok y hy).2))⟩
    have e0 : tupIn 0 5 (.tuple xs) = decide (xs.length ≤ 5) := by
      show (decide (0 ≤ (xs.length : Int)) && decide ((xs.length : Int) ≤ 5)) = _
      rw [decide_eq_true (by omega), Bool.true_and]
      exact decide_eq_decide.mpr (by omega)
    rw [e0] at t3
    have tst : tOr (tNot (tOf (eCall i_is_tuple_of [eVar 0, eD (.int 0), eD (.int 5)]))) (tNot (tOf (eBi [eNew (nComp [1] (iOf (eVar 0)) (.name 1) cYes (eCall i_fits_function [eVar 1]))] allB))) (callD tbl (k + 2)) [some (.d (.tuple xs)), none] st = .ok (!decide (xs.length ≤ 5) || !xs.all fitsF) st :=
      tor_run (tnot (tofB (call3 rfl rfl rfl t3))) fun _ => tnot (tofB (bi1 (new_run (ncomp_run (iof_d rfl rfl) a5)) (all_bools xs fitsF)))
    cases h1 : decide (xs.length ≤ 5) with
    | false =>
      rw [h1] at tst
      have e : netB (.tuple xs) = false := by
        show (decide (xs.length ≤ 5) && _) = false
        rw [h1]; rfl
      rw [e]
      exact fn_d0 rfl (seq_ret (if_t tst (seq_ret (ret_run rfl))))
    | true =>
      cases h2 : xs.all fitsF with
      | false =>
        rw [h1, h2] at tst
        have e : netB (.tuple xs) = false := by
          show (decide (xs.length ≤ 5) && (xs.all fitsF && _)) = false
          rw [h1, h2]; rfl
        rw [e]
        exact fn_d0 rfl (seq_ret (if_t tst (seq_ret (ret_run rfl))))
      | true =>
        rw [h1, h2] at tst
        have e : netB (.tuple xs) = xs.all fun y => lg (strLen y) == xs.length := by
          show (decide (xs.length ≤ 5) && (xs.all fitsF && _)) = _
          rw [h1, h2]; rfl
        rw [e]
        refine fn_d0 rfl (seq_nx (if_f tst rfl) (seq_ret (ret_run (bi1 (new_run (ncomp_run (iof_d rfl rfl) (comp_map (f := fun y => .bool (lg (strLen y) == xs.length)) fun y hy => ?_))) (all_bools xs _)))))
        obtain ⟨z, rfl, hz⟩ := fits_str (List.all_eq_true.mp h2 y hy)
        refine ⟨_, rfl, rfl, elt_run (cmp_run (call1 rfl (run_count_in (k + 1) st ((hok _ hy).2 z rfl) hz)) (bi1 rfl rfl) ?_)⟩
        exact cmp_eq_nat _ _
  | dict kvs => cases hx.1
  | _ => exact fn_d0 rfl (seq_ret (if_t (tor_t (tnot (tofB (call3 rfl rfl rfl t3)))) (seq_ret (ret_run rfl))))
end
end Law

set_option Elab.async false
set_option linter.all false
set_option maxRecDepth 100000
set_option maxHeartbeats 1000000
namespace Law
open PySem Ev
section
variable (k : Nat) (st : Store)
theorem cmp_ne_nat (m n : Nat) : cmpD .NotEq (.int m) (.int n) = some (!(m == n)) := by
  have h := cmp_eq_nat m n
  show (eqD (.int m) (.int n)).map not = _
  rw [show eqD (.int m) (.int n) = some (m == n) from h]
  rfl
theorem shl_nat (n : Nat) (h : n ≤ 1000) : binD .LShift (.int 1) (.int n) = some (.int (2 ^ n : Nat)) := by
  have e : (1 * 2 ^ (n : Int).toNat : Int) = ((2 ^ n : Nat) : Int) := by simp
  show (if 0 ≤ (n : Int) ∧ (n : Int) ≤ 1000000 ∧ (1 : Int).natAbs < 2 ^ 64 then some (PyData.int (1 * 2 ^ (n : Int).toNat)) else none) = _
  rw [if_pos ⟨by omega, by omega, by decide⟩, e]
theorem depth_strs (l : List Nat) : PyData.depthAll (l.map fun c => PyData.str ⟨#[c]⟩) = 0 := by
  induction l with
  | nil => simp [PyData.depthAll]
  | cons c l ih => simp [PyData.depthAll, PyData.depth, ih]
theorem ne_nil_strs (l : List Nat) : cmpD .NotEq (.list (l.map fun c => PyData.str ⟨#[c]⟩)) (.list []) = some (!l.isEmpty) := by
  have e : PyData.eqv (.list (l.map fun c => PyData.str ⟨#[c]⟩)) (.list []) = l.isEmpty := by
    cases l <;> simp [PyData.eqv, PyData.eqvAll]
  show (eqD (.list (l.map fun c => PyData.str ⟨#[c]⟩)) (.list [])).map not = _
  unfold eqD
  rw [if_pos (by simp [shallow, PyData.depth, depth_strs, PyData.depthAll]), e]
  rfl
def lawOwn (n : Nat) : PyData → Bool
  | .str z => z.length == 2 ^ n && z.cps.toList.all (inS "01")
  | _ => false
def lawNetB : PyData → Bool
  | .tuple xs => decide (xs.length ≤ 5) && xs.all (lawOwn xs.length)
  | _ => false
abbrev own32 : Sm Bool := (tOr (tNot (tOf (eBi [(eVar 1)] (isaB .str)))) (tOr (tOf (eCmp .NotEq (eBi [(eVar 1)] lenD) (eBin .LShift (eD (.int 1)) (eBi [(eVar 0)] lenD)))) (tOf (eCmp .NotEq (eNew (nComp [2] (iOf (eVar 1)) (.name 2) (tOf (eCmp .NotIn (eVar 2) (eD (.str "01")))) (eVar 2))) (eNew (nList []))))))
theorem own_run (cl : Calls) (vs : List PyData) (hv : vs.length ≤ 5) {y : PyData} (hy : Ok1 y) : own32 cl [some (.d (.tuple vs)), some (.d y), none] st = .ok (!lawOwn vs.length y) st := by
  have e1 : tNot (tOf (eBi [(eVar 1)] (isaB .str))) cl [some (.d (.tuple vs)), some (.d y), none] st = .ok (!isaD .str y) st := tnot (tofB (bi1 rfl (isa_d hy.1)))
  cases y with
  | str z =>
    have hz := hy.2 z rfl
    have e2 : tOf (eCmp .NotEq (eBi [(eVar 1)] lenD) (eBin .LShift (eD (.int 1)) (eBi [(eVar 0)] lenD))) cl [some (.d (.tuple vs)), some (.d (.str z)), none] st = .ok (!(z.length == 2 ^ vs.length)) st :=
      tofB (cmp_run (bi1 rfl (if_pos hz)) (e2_run rfl (bi1 rfl rfl) (shl_nat vs.length (by omega))) (cmp_ne_nat _ _))
    have hi : itemsOf (.str z) = some (signsOf z) := if_pos hz
    have e3 : compLoop (fun x => asgD (.name 2) x (wipeE [some (.d (.tuple vs)), some (.d (.str z)), none] [2])) (tOf (eCmp .NotIn (eVar 2) (eD (.str "01"))) cl) (eltD (eVar 2) cl) (signsOf z) st = .ok ((z.cps.toList.filter fun c => !inS "01" c).map fun c => PyData.str ⟨#[c]⟩) st := by
      have := comp_filter (st := st) (asg := fun x => asgD (.name 2) x (wipeE [some (.d (.tuple vs)), some (.d (.str z)), none] [2])) (c := tOf (eCmp .NotIn (eVar 2) (eD (.str "01"))) cl) (e := eltD (eVar 2) cl) (xs := signsOf z)
        (p := fun w => match w with | .str q => !(!(Builtin.Str.occurrences "01" q 0 (Str.length "01") 1).isEmpty) | _ => false) (f := fun w => w) (fun w hw => by
          obtain ⟨c, hc, rfl⟩ := List.mem_map.mp hw
          exact ⟨_, rfl, tofB (cmp_run rfl rfl rfl), fun _ => rfl⟩)
      rw [this, List.map_id']
      unfold signsOf
      rw [List.filter_map]
      rfl
    have e4 : tOf (eCmp .NotEq (eNew (nComp [2] (iOf (eVar 1)) (.name 2) (tOf (eCmp .NotIn (eVar 2) (eD (.str "01")))) (eVar 2))) (eNew (nList []))) cl [some (.d (.tuple vs)), some (.d (.str z)), none] st = .ok (!(z.cps.toList.filter fun c => !inS "01" c).isEmpty) st :=
      tofB (cmp_run (new_run (ncomp_run (iof_d rfl hi) e3)) (new_run rfl) (ne_nil_strs _))
    have h := tor_run e1 fun _ => tor_run e2 fun _ => e4
    have ef : (z.cps.toList.filter fun c => !inS "01" c).isEmpty = z.cps.toList.all (inS "01") := by
      induction z.cps.toList with
      | nil => rfl
      | cons a l ih =>
        rw [List.filter_cons, List.all_cons]
        cases inS "01" a <;> simp_all
    rw [ef] at h
    show own32 cl _ st = .ok (!(z.length == 2 ^ vs.length && z.cps.toList.all (inS "01"))) st
    rw [Bool.not_and]
    exact h
  | dict kvs => cases hy.1
  | _ => exact tor_t e1
theorem loop32 (cl : Calls) (vs : List PyData) (hv : vs.length ≤ 5) : ∀ (ys : List PyData) (o : Option W), (∀ y ∈ ys, Ok1 y) → ∃ ρ', forLoop (asgD (.name 1)) (sSeq (sIf own32 (sSeq (sRet (eD (.bool false))) sNext) sNext) sNext cl) ys [some (.d (.tuple vs)), o, none] st =
    .ok (if ys.all (lawOwn vs.length) then (.nx, [some (.d (.tuple vs)), ρ', none]) else (.ret (.d (.bool false)), [some (.d (.tuple vs)), ρ', none])) st
  | [], o, _ => ⟨o, rfl⟩
  | y :: ys, o, h => by
    have h1 := own_run st cl vs hv (h y List.mem_cons_self)
    cases hb : lawOwn vs.length y with
    | true =>
      rw [hb] at h1
      obtain ⟨ρ', ih⟩ := loop32 cl vs hv ys (some (.d y)) fun z hz => h z (List.mem_cons_of_mem _ hz)
      refine ⟨ρ', for_nx rfl (seq_nx (if_f h1 rfl) rfl) ?_⟩
      refine Eq.trans ih ?_
      rw [List.all_cons, hb, Bool.true_and]
    | false =>
      rw [hb] at h1
      refine ⟨some (.d y), ?_⟩
      rw [List.all_cons, hb, Bool.false_and]
      exact for_ret rfl (seq_ret (if_t h1 (seq_ret (ret_run rfl))))
theorem gt_nat (m n : Nat) : cmpD .Gt (.int m) (.int n) = some (decide (n < m)) := by
  show some (decide ((n : Int) < (m : Int))) = _
  rw [show decide ((n : Int) < (m : Int)) = decide (n < m) from decide_eq_decide.mpr (by omega)]
/-- both ways to judge are one -/
theorem judge_eq (x : PyData) : netB x = lawNetB x := by
  cases x with
  | tuple xs =>
    show (decide (xs.length ≤ 5) && (xs.all fitsF && xs.all fun y => lg (strLen y) == xs.length)) = (decide (xs.length ≤ 5) && xs.all (lawOwn xs.length))
    by_cases h5 : xs.length ≤ 5
    · rw [decide_eq_true h5, Bool.true_and, Bool.true_and]
      have key : ∀ y, (fitsF y && (lg (strLen y) == xs.length)) = lawOwn xs.length y := by
        intro y
        generalize xs.length = n at h5
        cases y with
        | str z =>
          show ((((decide (1 ≤ (z.length : Int)) && decide ((z.length : Int) ≤ 64)) && z.cps.toList.all (inS "01")) && lenOk z.length) && (lg z.length == n)) = (z.length == 2 ^ n && z.cps.toList.all (inS "01"))
          cases z.cps.toList.all (inS "01") with
          | false => simp
          | true =>
            generalize z.length = m
            simp only [Bool.and_true]
            by_cases hm : lenOk m = true
            · rcases lenOk_cases hm with rfl | rfl | rfl | rfl | rfl | rfl | rfl <;>
              (have : n = 0 ∨ n = 1 ∨ n = 2 ∨ n = 3 ∨ n = 4 ∨ n = 5 := by omega) <;>
              rcases this with rfl | rfl | rfl | rfl | rfl | rfl <;> rfl
            · rw [Bool.not_eq_true] at hm
              rw [hm, Bool.and_false, Bool.false_and]
              refine (beq_eq_false_iff_ne.mpr fun e => ?_).symm
              subst e
              have : n = 0 ∨ n = 1 ∨ n = 2 ∨ n = 3 ∨ n = 4 ∨ n = 5 := by omega
              rcases this with rfl | rfl | rfl | rfl | rfl | rfl <;> cases hm
        | _ => rfl
      clear h5
      have : ∀ l : List PyData, (l.all fitsF && l.all fun y => lg (strLen y) == xs.length) = l.all (lawOwn xs.length) := by
        intro l
        induction l with
        | nil => rfl
        | cons y l ih =>
          rw [List.all_cons, List.all_cons, List.all_cons, ← ih, ← key y]
          cases fitsF y <;> cases (lg (strLen y) == xs.length) <;> simp
      exact this xs
    · rw [decide_eq_false h5]; rfl
  | _ => rfl
end
end Law

set_option Elab.async false
set_option linter.all false
set_option maxRecDepth 100000
set_option maxHeartbeats 1000000
namespace Law
open PySem Ev
section
variable (k : Nat) (st : Store)
def sortN : PyData → Nat
  | .none => 0
  | .bool _ => 1
  | .int _ => 2
  | .str _ => 3
  | .tuple _ => 4
  | .list _ => 5
  | .dict _ => 6
theorem run__law_sort {x : PyData} (hx : isDict x = false) : callD tbl (k + 1) i__law_sort [.d x] st = .ok (.d (.int (sortN x))) st := by
  rw [c__law_sort]
  cases x with
  | none => exact fn_d0 rfl (seq_ret (if_t (tor_t (tofB (cmp_run rfl rfl rfl))) (seq_ret (ret_run (ifx_t (tofB (cmp_run rfl rfl rfl)) rfl)))))
  | bool b => exact fn_d0 rfl (seq_ret (if_t (tor_f (tofB (cmp_run rfl rfl rfl)) (tofB (bi1 rfl rfl))) (seq_ret (ret_run (ifx_f (tofB (cmp_run rfl rfl rfl)) rfl)))))
  | int i => exact fn_d0 rfl (seq_nx (if_f (tor_f (tofB (cmp_run rfl rfl rfl)) (tofB (bi1 rfl rfl))) rfl) (seq_ret (if_t (tor_t (tofB (bi1 rfl rfl))) (seq_ret (ret_run (ifx_t (tofB (bi1 rfl rfl)) rfl))))))
  | str z => exact fn_d0 rfl (seq_nx (if_f (tor_f (tofB (cmp_run rfl rfl rfl)) (tofB (bi1 rfl rfl))) rfl) (seq_ret (if_t (tor_f (tofB (bi1 rfl rfl)) (tofB (bi1 rfl rfl))) (seq_ret (ret_run (ifx_f (tofB (bi1 rfl rfl)) rfl))))))
  | tuple xs => exact fn_d0 rfl (seq_nx (if_f (tor_f (tofB (cmp_run rfl rfl rfl)) (tofB (bi1 rfl rfl))) rfl) (seq_nx (if_f (tor_f (tofB (bi1 rfl rfl)) (tofB (bi1 rfl rfl))) rfl) (seq_ret (ret_run (ifx_t (tofB (bi1 rfl rfl)) rfl)))))
  | list xs => exact fn_d0 rfl (seq_nx (if_f (tor_f (tofB (cmp_run rfl rfl rfl)) (tofB (bi1 rfl rfl))) rfl) (seq_nx (if_f (tor_f (tofB (bi1 rfl rfl)) (tofB (bi1 rfl rfl))) rfl) (seq_ret (ret_run (ifx_f (tofB (bi1 rfl rfl)) (ifx_t (tofB (bi1 rfl rfl)) rfl))))))
  | dict kvs => cases hx
mutual
def nice : PyData → Bool
  | .dict _ => false
  | .list xs => niceAll xs
  | .tuple xs => niceAll xs
  | _ => true
def niceAll : List PyData → Bool
  | [] => true
  | x :: xs => nice x && niceAll xs
end
theorem nice_mem : ∀ {xs : List PyData}, niceAll xs = true → ∀ x ∈ xs, nice x = true
  | y :: ys, h, x, hx => by
    rw [niceAll, Bool.and_eq_true] at h
    rcases List.mem_cons.mp hx with e | e
    · rw [e]; exact h.1
    · exact nice_mem h.2 x e
theorem nice_nd {x : PyData} (h : nice x = true) : isDict x = false := by
  cases x <;> first | rfl | (simp [nice] at h)
theorem depth_mem : ∀ {xs : List PyData} {x : PyData}, x ∈ xs → x.depth ≤ PyData.depthAll xs
  | y :: ys, x, h => by
    rw [PyData.depthAll]
    rcases List.mem_cons.mp h with e | e
    · rw [e]; exact Nat.le_max_left _ _
    · exact Nat.le_trans (depth_mem e) (Nat.le_max_right _ _)
theorem eqv_leaf {x : PyData} (h : sortN x < 4) : cmpD .Eq x x = some true := by
  cases x with
  | none => rfl
  | bool b => simp [cmpD, isDict, cmpP, eqD, shallow, PyData.depth, PyData.eqv]
  | int i => simp [cmpD, isDict, cmpP, eqD, shallow, PyData.depth, PyData.eqv]
  | str z => simp [cmpD, isDict, cmpP, eqD, shallow, PyData.depth, PyData.eqv]
  | tuple xs => exact absurd h (by simp [sortN])
  | list xs => exact absurd h (by simp [sortN])
  | dict xs => exact absurd h (by simp [sortN])
theorem zip_same : ∀ xs : List PyData, ∀ z ∈ zip2 xs xs, ∃ x ∈ xs, z = .tuple [x, x]
  | [], z, h => by cases h
  | x :: xs, z, h => by
    rcases List.mem_cons.mp h with e | e
    · exact ⟨x, List.mem_cons_self, e⟩
    · obtain ⟨y, hy, e⟩ := zip_same xs z e
      exact ⟨y, List.mem_cons_of_mem _ hy, e⟩
theorem srcd {cl : Calls} {ρ : Ev.Env} {f g : Sm W} {a b : PyData} {xs ys : List PyData} (h : f cl ρ st = .ok (.d a) st) (h2 : g cl ρ st = .ok (.d b) st) (ha : itemsOf a = some xs) (hb : itemsOf b = some ys) : iZip2 f g cl ρ st = .ok ⟨zip2 xs ys, []⟩ st :=
  bind_run h (bind_run h2 (by
    refine bind_run (st1 := st) (a := ⟨xs, []⟩) ?_ (bind_run (st1 := st) (a := ⟨ys, []⟩) ?_ rfl)
    · show M.bind (M.ofOpt (itemsOf a)) _ st = _
      rw [ha]; rfl
    · show M.bind (M.ofOpt (itemsOf b)) _ st = _
      rw [hb]; rfl))
theorem in45 (n : Nat) : cmpD .In (.int n) (.tuple [.int 4, .int 5]) = some (n == 4 || n == 5) := by
  have e : (([.int 4, .int 5] : List PyData).any fun z => PyData.eqv z (.int n)) = (n == 4 || n == 5) := by
    show (PyData.eqv (.int (4 : Nat)) (.int n) || (PyData.eqv (.int (5 : Nat)) (.int n) || false)) = _
    simp only [eqv_nat, Bool.or_false]
  show (if (shallow (.int n) && shallow (.tuple [.int 4, .int 5])) = true then some (([.int 4, .int 5] : List PyData).any fun z => PyData.eqv z (.int n)) else none) = _
  rw [e, if_pos]
  simp [shallow, PyData.depth, PyData.depthAll]
theorem filter_none {α : Type} : ∀ xs : List α, (xs.filter fun _ => false) = []
  | [] => rfl
  | _ :: xs => by rw [List.filter_cons_of_neg (by decide)]; exact filter_none xs
theorem lenD_seq {x : PyData} {xs : List PyData} (h : x = .list xs ∨ x = .tuple xs) : lenD [x] = some (.int (xs.length : Nat)) := by
  rcases h with rfl | rfl <;> rfl
/-- what is one is like itself -/
theorem like_leaf (x : PyData) (k : Nat) (st : Store) (hn : nice x = true) (hs : sortN x < 4) : callD tbl (k + 2) i__law_like [.d x, .d x] st = .ok (.d (.bool true)) st := by
  have r := run__law_sort k st (nice_nd hn)
  rw [c__law_like]
  refine fn_d0 rfl (seq_nx (set_run (call1 rfl r)) (seq_nx (if_f (tor_f (tofB (cmp_run (call1 rfl r) rfl (by rw [cmp_ne_nat]; simp))) (tofB (cmp_run rfl rfl ?_))) rfl) (seq_nx (if_f (tofB (cmp_run rfl rfl ?_)) rfl) (seq_ret (ret_run (cmp_run rfl rfl (eqv_leaf hs)))))))
  · rw [show (PyData.int 6) = .int (6 : Nat) from rfl, cmp_eq_nat, beq_eq_false_iff_ne.mpr (by omega)]
  · refine (in45 (sortN x)).trans ?_
    rw [beq_eq_false_iff_ne.mpr (by omega), beq_eq_false_iff_ne.mpr (by omega)]
    rfl
theorem like_seq (x : PyData) (xs : List PyData) (k : Nat) (st : Store) (hx : x = .list xs ∨ x = .tuple xs) (ih : ∀ y ∈ xs, callD tbl (k + 1) i__law_like [.d y, .d y] st = .ok (.d (.bool true)) st) : callD tbl (k + 2) i__law_like [.d x, .d x] st = .ok (.d (.bool true)) st := by
  have hd : isDict x = false := by rcases hx with rfl | rfl <;> rfl
  have hs : sortN x = 5 ∨ sortN x = 4 := by rcases hx with rfl | rfl <;> simp [sortN]
  have hi : itemsOf x = some xs := by rcases hx with rfl | rfl <;> rfl
  have r := run__law_sort k st hd
  rw [c__law_like]
  have hl := lenD_seq hx
  refine fn_d0 rfl (seq_nx (set_run (call1 rfl r)) (seq_nx (if_f (tor_f (tofB (cmp_run (call1 rfl r) rfl (by rw [cmp_ne_nat]; simp))) (tofB (cmp_run rfl rfl ?_))) rfl) (seq_ret (if_t (tofB (cmp_run rfl rfl ?_)) (seq_ret (ret_run (and_t (cmp_run (bi1 rfl hl) (bi1 rfl hl) (by rw [cmp_eq_nat]; simp)) ?_)))))))
  · rw [show (PyData.int 6) = .int (6 : Nat) from rfl, cmp_eq_nat, beq_eq_false_iff_ne.mpr (by omega)]
  · refine (in45 (sortN x)).trans ?_
    rcases hs with e | e <;> rw [e] <;> rfl
  · refine cmp_run (b := .list []) (new_run (ds := []) (ncomp_run (s := ⟨zip2 xs xs, []⟩) (srcd st rfl rfl hi hi) ?_)) (new_run rfl) rfl
    have := comp_filter (st := st) (asg := fun z => asgD (.tup [.name 3, .name 4]) z (wipeE [some (.d x), some (.d x), some (.d (.int (sortN x))), none, none] [3, 4])) (c := tNot (tOf (eCall i__law_like [(eVar 3), (eVar 4)])) (callD tbl (k + 1))) (e := eltD (eD (.int 1)) (callD tbl (k + 1))) (xs := zip2 xs xs) (p := fun _ => false) (f := fun w => w) (fun z hz => by
      obtain ⟨y, hy, rfl⟩ := zip_same xs z hz
      exact ⟨_, rfl, tnot_t (tofB (call2 rfl rfl (ih y hy))), fun h => by cases h⟩)
    rw [filter_none] at this
    exact this
theorem like_self : ∀ (n : Nat) (x : PyData) (k : Nat) (st : Store), nice x = true → x.depth ≤ n → callD tbl (n + k + 2) i__law_like [.d x, .d x] st = .ok (.d (.bool true)) st := by
  intro n
  induction n with
  | zero =>
    intro x k st hn hd
    have hs : sortN x < 4 := by cases x <;> first | (simp [sortN]; done) | (simp [PyData.depth] at hd) | (simp [nice] at hn)
    exact like_leaf x _ st hn hs
  | succ n ih =>
    intro x k st hn hd
    cases x with
    | dict kvs => simp [nice] at hn
    | list xs =>
      refine like_seq (.list xs) xs _ st (.inl rfl) fun y hy => ?_
      have e : n + 1 + k + 1 = n + k + 2 := by omega
      rw [e]
      exact ih y k st (nice_mem (by simpa [nice] using hn) y hy) (by
        have := depth_mem hy
        have h2 : PyData.depth (.list xs) = PyData.depthAll xs + 1 := by simp [PyData.depth, Nat.add_comm]
        omega)
    | tuple xs =>
      refine like_seq (.tuple xs) xs _ st (.inr rfl) fun y hy => ?_
      have e : n + 1 + k + 1 = n + k + 2 := by omega
      rw [e]
      exact ih y k st (nice_mem (by simpa [nice] using hn) y hy) (by
        have := depth_mem hy
        have h2 : PyData.depth (.tuple xs) = PyData.depthAll xs + 1 := by simp [PyData.depth, Nat.add_comm]
        omega)
    | none => exact like_leaf _ _ st hn (by simp [sortN])
    | bool b => exact like_leaf _ _ st hn (by simp [sortN])
    | int b => exact like_leaf _ _ st hn (by simp [sortN])
    | str b => exact like_leaf _ _ st hn (by simp [sortN])
end
end Law

set_option Elab.async false
set_option linter.all false
set_option maxRecDepth 100000
set_option maxHeartbeats 1000000
/-! Rows and nets as Booleans; number, answer and step. -/
namespace Law
open PySem Ev
section
variable (k : Nat) (st : Store)
def bitN (b : Bool) : Nat := if b then 1 else 0
abbrev bitD (b : Bool) : PyData := .int (bitN b : Nat)
abbrev rowD (r : List Bool) : PyData := .tuple (r.map bitD)
def numA (n : Nat) (r : List Bool) : Nat := r.foldl (fun n b => 2 * n + bitN b) n
def num (r : List Bool) : Nat := numA 0 r
def fnS (f : List Bool) : Str := ⟨(f.map fun b => 48 + bitN b).toArray⟩
def fnD (f : List Bool) : PyData := .str (fnS f)
abbrev netD (F : List (List Bool)) : PyData := .tuple (F.map fnD)
def stepR (F : List (List Bool)) (r : List Bool) : List Bool := F.map fun f => f.getD (num r) false
/-- a whole net -/
def Net (F : List (List Bool)) : Prop := F.length ≤ 5 ∧ ∀ f ∈ F, f.length = 2 ^ F.length
theorem bitN_le (b : Bool) : bitN b ≤ 1 := by cases b <;> decide
theorem numA_lt : ∀ (r : List Bool) (n m : Nat), n < 2 ^ m → numA n r < 2 ^ (m + r.length)
  | [], n, m, h => h
  | b :: r, n, m, h => by
    have h2 := numA_lt r (2 * n + bitN b) (m + 1) (by have := bitN_le b; rw [Nat.pow_succ]; omega)
    show numA (2 * n + bitN b) r < _
    rw [List.length_cons, show m + (r.length + 1) = m + 1 + r.length by omega]
    exact h2
theorem num_lt (r : List Bool) : num r < 2 ^ r.length := by
  have := numA_lt r 0 0 (by decide)
  rwa [Nat.zero_add] at this
theorem fnS_len (f : List Bool) : (fnS f).length = f.length := by
  show (f.map fun b => 48 + bitN b).toArray.size = _
  rw [List.size_toArray, List.length_map]
/-- the loop that counts -/
theorem num_loop (cl : Calls) (a : W) : ∀ (r : List Bool) (n : Nat) (o : Option W), ∃ ρ', forLoop (asgD (.name 2)) (sSeq (sSet 1 (eBin .Add (eBin .Mult (eD (.int 2)) (eVar 1)) (eVar 2))) sNext cl) (r.map bitD) [some a, some (.d (.int n)), o] st =
    .ok (.nx, [some a, some (.d (.int (numA n r : Nat))), ρ']) st
  | [], n, o => ⟨o, rfl⟩
  | b :: r, n, o => by
    obtain ⟨ρ', ih⟩ := num_loop cl a r (2 * n + bitN b) (some (.d (bitD b)))
    refine ⟨ρ', for_nx rfl (seq_nx (set_run (e2_run (e2_run rfl rfl (b := .int n) (c := .int (2 * n)) ?_) rfl (c := .int (2 * n + bitN b : Nat)) ?_)) rfl) ih⟩
    · show (if mulOk 2 n then some (PyData.int (2 * n)) else none) = _
      rw [if_pos (by unfold mulOk; simp)]
    · show some (PyData.int (2 * n + (bitN b : Nat))) = _
      rw [show (2 * (n : Int) + (bitN b : Nat)) = ((2 * n + bitN b : Nat) : Int) by omega]
theorem run_number_in (r : List Bool) : callD tbl (k + 1) i_number_in [.d (rowD r)] st = .ok (.d (.int (num r))) st := by
  rw [c_number_in]
  obtain ⟨ρ', h⟩ := num_loop st (callD tbl k) (.d (rowD r)) r 0 none
  exact fn_d0 rfl (seq_nx (set_run rfl) (seq_nx (for_run (s := ⟨r.map bitD, []⟩) (iof_d rfl rfl) h) (seq_ret (ret_run rfl))))
theorem run__law_number (r : List Bool) : callD tbl (k + 1) i__law_number [.d (rowD r)] st = .ok (.d (.int (num r))) st := by
  rw [c__law_number]
  obtain ⟨ρ', h⟩ := num_loop st (callD tbl k) (.d (rowD r)) r 0 none
  exact fn_d0 rfl (seq_nx (set_run rfl) (seq_nx (for_run (s := ⟨r.map bitD, []⟩) (iof_d rfl rfl) h) (seq_ret (ret_run rfl))))
theorem int_one : intB [PyData.str { cps := #[48 + bitN true] }] = some (bitD true) := by kernel_rfl
theorem int_zero : intB [PyData.str { cps := #[48 + bitN false] }] = some (bitD false) := by kernel_rfl
theorem atI_nat {α : Type} (xs : List α) (n : Nat) (h : n < xs.length) : L2.atI xs (n : Int) = some xs[n] := by
  unfold L2.atI L2.ixN
  rw [if_pos (by omega), if_pos (by omega)]
  show xs[(n : Int).toNat]? = _
  rw [Int.toNat_natCast, List.getElem?_eq_getElem h]
theorem comp_maps {cl : Calls} {α : Type} {asg : PyData → Option Ev.Env} {c : Ev.Env → M Bool} {e : Ev.Env → M PyData} {g h : α → PyData} : ∀ {xs : List α}, (∀ x ∈ xs, ∃ ρ, asg (g x) = some ρ ∧ c ρ st = .ok true st ∧ e ρ st = .ok (h x) st) → compLoop asg c e (xs.map g) st = .ok (xs.map h) st
  | [], _ => rfl
  | x :: xs, H => by
    obtain ⟨ρ, h1, h2, h3⟩ := H x List.mem_cons_self
    exact comp_t h1 h2 h3 (comp_maps (cl := cl) fun y hy => H y (List.mem_cons_of_mem _ hy))
theorem sign_at (f : List Bool) (n : Nat) (h : n < f.length) (h2 : f.length ≤ 64) : itemD (fnD f) (.int n) = some (.str ⟨#[48 + bitN (f.getD n false)]⟩) := by
  show (if (fnS f).length ≤ sizeLine then (L2.atI (fnS f).cps.toList n).map fun c => PyData.str ⟨#[c]⟩ else none) = _
  rw [if_pos (by rw [fnS_len]; exact Nat.le_trans h2 (by decide))]
  have e : L2.atI (fnS f).cps.toList n = some (48 + bitN (f.getD n false)) := by
    have hl : (fnS f).cps.toList = f.map fun b => 48 + bitN b := rfl
    rw [hl, atI_nat _ _ (by rw [List.length_map]; exact h), List.getElem_map, List.getD_eq_getElem?_getD, List.getElem?_eq_getElem h]
    rfl
  rw [e]
  rfl
theorem run_answer_in (f r : List Bool) (h : f.length = 2 ^ r.length) (h2 : r.length ≤ 5) : callD tbl (k + 2) i_answer_in [.d (fnD f), .d (rowD r)] st = .ok (.d (bitD (f.getD (num r) false))) st := by
  have hn : num r < f.length := by rw [h]; exact num_lt r
  have hl : f.length ≤ 64 := by rw [h]; exact Nat.le_trans (Nat.pow_le_pow_right (by decide) h2) (by decide)
  rw [c_answer_in]
  refine fn_d0 rfl (seq_ret (ret_run (bi1 (e2_run rfl (call1 rfl (run_number_in k st r)) (sign_at f _ hn hl)) ?_)))
  cases f.getD (num r) false with
  | true => exact int_one
  | false => exact int_zero
theorem run__law_at (f r : List Bool) (h : f.length = 2 ^ r.length) (h2 : r.length ≤ 5) : callD tbl (k + 2) i__law_at [.d (fnD f), .d (rowD r)] st = .ok (.d (bitD (f.getD (num r) false))) st := by
  have hn : num r < f.length := by rw [h]; exact num_lt r
  have hl : f.length ≤ 64 := by rw [h]; exact Nat.le_trans (Nat.pow_le_pow_right (by decide) h2) (by decide)
  rw [c__law_at]
  have e := sign_at f _ hn hl
  cases hb : f.getD (num r) false with
  | true =>
    rw [hb] at e
    exact fn_d0 rfl (seq_ret (ret_run (ifx_t (tofB (cmp_run (e2_run rfl (call1 rfl (run__law_number k st r)) e) rfl rfl)) rfl)))
  | false =>
    rw [hb] at e
    exact fn_d0 rfl (seq_ret (ret_run (ifx_f (tofB (cmp_run (e2_run rfl (call1 rfl (run__law_number k st r)) e) rfl rfl)) rfl)))
theorem run_step_in {F : List (List Bool)} (hF : Net F) {r : List Bool} (hr : r.length = F.length) : callD tbl (k + 3) i_step_in [.d (netD F), .d (rowD r)] st = .ok (.d (rowD (stepR F r))) st := by
  rw [c_step_in]
  refine fn_d0 rfl (seq_ret (ret_run (bi1 (a := .list ((stepR F r).map bitD)) (new_run (ncomp_run (s := ⟨F.map fnD, []⟩) (iof_d rfl rfl) ?_)) rfl)))
  unfold stepR
  rw [List.map_map]
  exact comp_maps st (cl := callD tbl (k + 2)) fun f hf => ⟨_, rfl, rfl, elt_run (call2 rfl rfl (run_answer_in k st f r (by rw [hr]; exact hF.2 f hf) (by rw [hr]; exact hF.1)))⟩
theorem run__law_step {F : List (List Bool)} (hF : Net F) {r : List Bool} (hr : r.length = F.length) : callD tbl (k + 3) i__law_step [.d (netD F), .d (rowD r)] st = .ok (.d (rowD (stepR F r))) st := by
  rw [c__law_step]
  refine fn_d0 rfl (seq_ret (ret_run (bi1 (a := .list ((stepR F r).map bitD)) (new_run (ncomp_run (s := ⟨F.map fnD, []⟩) (iof_d rfl rfl) ?_)) rfl)))
  unfold stepR
  rw [List.map_map]
  exact comp_maps st (cl := callD tbl (k + 2)) fun f hf => ⟨_, rfl, rfl, elt_run (call2 rfl rfl (run__law_at k st f r (by rw [hr]; exact hF.2 f hf) (by rw [hr]; exact hF.1)))⟩
/-! ### what is asked of an input -/
theorem run_fits_row (r : List Bool) : callD tbl (k + 3) i_fits_row [.d (.int (r.length : Nat)), .d (rowD r)] st = .ok (.d (.bool true)) st := by
  rw [c_fits_row]
  have e : tupIn (r.length : Nat) (r.length : Nat) (rowD r) = true := by
    show (decide ((r.length : Int) ≤ ((r.map bitD).length : Nat)) && decide (((r.map bitD).length : Nat) ≤ (r.length : Int))) = true
    simp
  have t := run_is_tuple_of (k + 1) st (x := rowD r) rfl (r.length : Nat) (r.length : Nat)
  rw [e] at t
  refine fn_d0 rfl (seq_ret (ret_run (and_t (call3 rfl rfl rfl t) (bi1 (a := .list (r.map fun b => .bool true)) (new_run (ncomp_run (s := ⟨r.map bitD, []⟩) (iof_d rfl rfl) (comp_maps st (cl := callD tbl (k + 2)) fun b hb => ⟨_, rfl, rfl, elt_run (call3 rfl rfl rfl ?_)⟩))) ?_))))
  · have q := run_is_whole k st (x := bitD b) rfl 0 1
    have e : intIn 0 1 (bitD b) = true := by cases b <;> rfl
    rw [e] at q
    exact q
  · rw [all_bools]
    simp
end
end Law

set_option Elab.async false
set_option linter.all false
set_option maxRecDepth 100000
set_option maxHeartbeats 1000000
/-! A whole net is taken; rows are told apart; the walk of a row. -/
namespace Law
open PySem Ev
section
variable (k : Nat) (st : Store)
theorem netD_ok1 {F : List (List Bool)} (hF : Net F) : ∀ y ∈ F.map fnD, Ok1 y := by
  intro y hy
  obtain ⟨f, hf, rfl⟩ := List.mem_map.mp hy
  refine ⟨rfl, fun z hz => ?_⟩
  obtain rfl : fnS f = z := by cases hz; rfl
  rw [fnS_len, hF.2 f hf]
  exact Nat.le_trans (Nat.pow_le_pow_right (by decide) hF.1) (by decide)
theorem netD_ok2 {F : List (List Bool)} (hF : Net F) : Ok2 (netD F) := ⟨rfl, fun xs hx => by
  obtain rfl : F.map fnD = xs := by unfold netD at hx; cases hx; rfl
  exact netD_ok1 hF⟩
theorem in01 (b : Bool) : inS "01" (48 + bitN b) = true := by cases b <;> kernel_rfl
theorem netD_net {F : List (List Bool)} (hF : Net F) : netB (netD F) = true := by
  rw [judge_eq]
  show (decide ((F.map fnD).length ≤ 5) && (F.map fnD).all (lawOwn (F.map fnD).length)) = true
  rw [List.length_map, decide_eq_true hF.1, Bool.true_and, List.all_eq_true]
  intro y hy
  obtain ⟨f, hf, rfl⟩ := List.mem_map.mp hy
  show ((fnS f).length == 2 ^ F.length && (fnS f).cps.toList.all (inS "01")) = true
  rw [fnS_len, hF.2 f hf, beq_self_eq_true, Bool.true_and]
  show (f.map fun b => 48 + bitN b).all (inS "01") = true
  rw [List.all_eq_true]
  intro c hc
  obtain ⟨b, _, rfl⟩ := List.mem_map.mp hc
  exact in01 b
theorem run_need_net {F : List (List Bool)} (hF : Net F) : callD tbl (k + 4) i_need_net [.d (netD F)] st = .ok (.d .none) st := by
  rw [c_need_net]
  have r := run_fits_net k st (netD_ok2 hF)
  rw [netD_net hF] at r
  exact fn_nx (st1 := []) rfl (by
    rw [List.append_nil]
    exact seq_nx (if_f (tnot_t (tofB (call1 rfl r))) rfl) rfl)
theorem run_need_row_of {F : List (List Bool)} (hF : Net F) {r : List Bool} (hr : r.length = F.length) : callD tbl (k + 5) i_need_row_of [.d (netD F), .d (rowD r)] st = .ok (.d .none) st := by
  rw [c_need_row_of]
  have t := run_fits_row (k + 1) st r
  rw [hr] at t
  have hl : lenD [netD F] = some (.int (F.length : Nat)) := by
    show some (PyData.int ((F.map fnD).length : Nat)) = _
    rw [List.length_map]
  exact fn_nx (st1 := []) rfl (by
    rw [List.append_nil]
    exact seq_nx (drop_run (call1 rfl (run_need_net k st hF))) (seq_nx (if_f (tnot_t (tofB (call2 (bi1 rfl hl) rfl t))) rfl) rfl))
theorem run_next_row {F : List (List Bool)} (hF : Net F) {r : List Bool} (hr : r.length = F.length) : callD tbl (k + 6) i_next_row [.d (netD F), .d (rowD r)] st = .ok (.d (rowD (stepR F r))) st := by
  rw [c_next_row]
  exact fn_d0 rfl (seq_nx (drop_run (call2 rfl rfl (run_need_row_of k st hF hr))) (seq_ret (ret_run (call2 rfl rfl (run_step_in (k + 2) st hF hr)))))
/-! ### rows apart -/
theorem eqv_bit (b c : Bool) : PyData.eqv (bitD b) (bitD c) = (b == c) := by cases b <;> cases c <;> simp [bitD, bitN, PyData.eqv]
theorem eqv_bits : ∀ r s : List Bool, PyData.eqvAll (r.map bitD) (s.map bitD) = (r == s)
  | [], [] => by simp [PyData.eqvAll]
  | [], c :: s => by simp [PyData.eqvAll]
  | b :: r, [] => by simp [PyData.eqvAll]
  | b :: r, c :: s => by
    rw [List.map_cons, List.map_cons, PyData.eqvAll, eqv_bit, eqv_bits r s]
    rfl
theorem eqv_row (r s : List Bool) : PyData.eqv (rowD r) (rowD s) = (r == s) := by
  unfold rowD
  rw [PyData.eqv]
  exact eqv_bits r s
theorem depth_bits : ∀ r : List Bool, PyData.depthAll (r.map bitD) = 0
  | [] => by simp [PyData.depthAll]
  | b :: r => by simp [PyData.depthAll, bitD, PyData.depth, depth_bits r]
theorem depth_row (r : List Bool) : (rowD r).depth = 1 := by simp [rowD, PyData.depth, depth_bits]
theorem depth_rows : ∀ l : List (List Bool), PyData.depthAll (l.map rowD) ≤ 1
  | [] => by simp [PyData.depthAll]
  | r :: l => by
    rw [List.map_cons, PyData.depthAll, depth_row]
    exact Nat.max_le.mpr ⟨Nat.le_refl _, depth_rows l⟩
theorem in_rows (r : List Bool) (l : List (List Bool)) : cmpD .In (rowD r) (.list (l.map rowD)) = some (l.any fun s => s == r) := by
  have e : ((l.map rowD).any fun z => PyData.eqv z (rowD r)) = l.any fun s => s == r := by
    rw [List.any_map]
    congr 1
    funext s
    exact eqv_row s r
  show (if (shallow (rowD r) && shallow (.list (l.map rowD))) = true then some ((l.map rowD).any fun z => PyData.eqv z (rowD r)) else none) = _
  rw [e, if_pos]
  have := depth_rows l
  have h2 : PyData.depth (.list (l.map rowD)) = PyData.depthAll (l.map rowD) + 1 := by simp [PyData.depth, Nat.add_comm]
  unfold shallow
  rw [depth_row, h2, decide_eq_true (by omega), decide_eq_true (by omega)]
  rfl
theorem notin_rows (r : List Bool) (l : List (List Bool)) : cmpD .NotIn (rowD r) (.list (l.map rowD)) = some (!l.any fun s => s == r) := by
  have h := in_rows r l
  show (inD (rowD r) (.list (l.map rowD))).map not = _
  rw [show inD (rowD r) (.list (l.map rowD)) = some (l.any fun s => s == r) from h]
  rfl
/-! ### a hole too few -/
theorem holes : ∀ (n : Nat) (l : List Nat), l.Nodup → (∀ x ∈ l, x < n) → l.length ≤ n
  | 0, l, _, h => by
    cases l with
    | nil => exact Nat.le_refl _
    | cons a l => exact absurd (h a List.mem_cons_self) (Nat.not_lt_zero _)
  | n + 1, l, hd, h => by
    have h1 := holes n (l.erase n) (hd.erase n) fun x hx => by
      have h2 := h x (List.mem_of_mem_erase hx)
      have h3 : x ≠ n := fun e => by
        rw [e] at hx
        exact (List.Nodup.mem_erase_iff hd).mp hx |>.1 rfl
      omega
    have h4 := List.length_erase (a := n) (l := l)
    by_cases hm : n ∈ l
    · rw [if_pos hm] at h4; omega
    · rw [if_neg hm] at h4; omega
theorem numA_inj : ∀ (r s : List Bool) (n m : Nat), r.length = s.length → numA n r = numA m s → n = m ∧ r = s
  | [], [], n, m, _, h => ⟨h, rfl⟩
  | [], c :: s, n, m, h, _ => by cases h
  | b :: r, [], n, m, h, _ => by cases h
  | b :: r, c :: s, n, m, h, h2 => by
    have ⟨h3, h4⟩ := numA_inj r s (2 * n + bitN b) (2 * m + bitN c) (by simpa using h) h2
    have hb : bitN b = bitN c ∧ n = m := by have := bitN_le b; have := bitN_le c; omega
    have : b = c := by cases b <;> cases c <;> first | rfl | (exact absurd hb.1 (by decide))
    exact ⟨hb.2, by rw [this, h4]⟩
theorem num_inj {r s : List Bool} (h : r.length = s.length) (h2 : num r = num s) : r = s := (numA_inj r s 0 0 h h2).2
theorem least (p : Nat → Prop) (n : Nat) (h : p n) : ∃ m, m ≤ n ∧ p m ∧ ∀ i, i < m → ¬ p i := by
  induction n using Nat.strongRecOn with
  | ind n ih =>
    by_cases hx : ∃ i, i < n ∧ p i
    · obtain ⟨i, hi, hp⟩ := hx
      obtain ⟨m, h1, h2⟩ := ih i hi hp
      exact ⟨m, by omega, h2⟩
    · exact ⟨n, Nat.le_refl _, h, fun i hi hp => hx ⟨i, hi, hp⟩⟩
def orb (F : List (List Bool)) (r : List Bool) : Nat → List Bool
  | 0 => r
  | i + 1 => stepR F (orb F r i)
theorem orb_len {F : List (List Bool)} {r : List Bool} (hr : r.length = F.length) : ∀ i, (orb F r i).length = F.length
  | 0 => hr
  | i + 1 => by show (F.map _).length = _; rw [List.length_map]
/-- the first row that comes again -/
theorem orb_again {F : List (List Bool)} (hF : Net F) {r : List Bool} (hr : r.length = F.length) : ∃ m t, t < m ∧ m ≤ 32 ∧ orb F r t = orb F r m ∧ ∀ i j, i < j → j < m → orb F r i ≠ orb F r j := by
  have hex : ∃ m, m ≤ 32 ∧ ∃ t, t < m ∧ orb F r t = orb F r m := by
    apply Classical.byContradiction
    intro hno
    have hd : ((List.range 33).map fun i => num (orb F r i)).Nodup := by
      rw [List.Nodup, List.pairwise_map]
      refine List.Pairwise.imp_of_mem ?_ List.pairwise_lt_range
      intro a b ha hb hab he
      exact hno ⟨b, by have := List.mem_range.mp hb; omega, a, hab, num_inj (by rw [orb_len hr, orb_len hr]) he⟩
    have := holes 32 _ hd fun x hx => by
      obtain ⟨i, _, rfl⟩ := List.mem_map.mp hx
      refine Nat.lt_of_lt_of_le (num_lt _) ?_
      rw [orb_len hr]
      exact Nat.le_trans (Nat.pow_le_pow_right (by decide) hF.1) (by decide)
    rw [List.length_map, List.length_range] at this
    omega
  obtain ⟨n, hn, hp⟩ := hex
  obtain ⟨m, h1, ⟨t, h2, h3⟩, h4⟩ := least (fun m => ∃ t, t < m ∧ orb F r t = orb F r m) n hp
  exact ⟨m, t, h2, by omega, h3, fun i j hij hj he => h4 j hj ⟨i, hij, he⟩⟩
end
end Law

set_option Elab.async false
set_option linter.all false
set_option maxRecDepth 100000
set_option maxHeartbeats 1000000
/-! The walk of a row. -/
namespace Law
open PySem Ev
section
variable {cl : Calls} {ρ ρ1 ρ2 : Ev.Env} {st st1 st2 st3 st4 : Store}
theorem e2_gen {f g : Sm W} {k : PyData → PyData → Option PyData} {w v : W} {a b c : PyData} (h : f cl ρ st = .ok w st1) (h2 : g cl ρ st1 = .ok v st2) (ha : deref w st2 = .ok a st2) (hb : deref v st2 = .ok b st2) (hk : k a b = some c) : e2 f g k cl ρ st = .ok (.d c) st2 :=
  bind_run h (bind_run h2 (bind_run ha (bind_run hb (by
    show M.bind (M.ofOpt (k a b)) _ st2 = _
    rw [hk]
    rfl))))
theorem deref_at {n : Nat} {v : PyData} {c : CSt} (h : st[n]? = some ⟨v, c⟩) : deref (.bx n) st = .ok v st := by
  show (match st[n]? with | some c => Out.ok c.val st | none => .no) = _
  rw [h]
theorem live_at {n : Nat} {v : PyData} (h : st[n]? = some ⟨v, .live⟩) : liveAt (.bx n) st = .ok (n, v) st := by
  show (match st[n]? with | some ⟨v, .live⟩ => Out.ok (n, v) st | _ => .no) = _
  rw [h]
theorem setBox_at {n : Nat} {v u : PyData} (h : st[n]? = some ⟨v, .live⟩) : setBox n u st = .ok () (st.set n ⟨u, .live⟩) := by
  show (match st[n]? with | some ⟨_, .live⟩ => Out.ok () (st.set n ⟨u, .live⟩) | _ => .no) = _
  rw [h]
theorem toD_at {n : Nat} {l : List PyData} (h : st[n]? = some ⟨.list l, .live⟩) : toD (.bx n) st = .ok (.list l) (st.set n ⟨.list l, .shut⟩) := by
  simp only [toD, h]
theorem app_run {f g : Sm W} {n : Nat} {l : List PyData} {x : PyData} (h : f cl ρ st = .ok (.bx n) st) (hg : st[n]? = some ⟨.list l, .live⟩) (h2 : g cl ρ st = .ok (.d x) st) (hl : l.length < sizeLine) : eMut f [g] appendK cl ρ st = .ok (.d .none) (st.set n ⟨.list (l ++ [x]), .live⟩) :=
  bind_run h (bind_run (deref_at hg) (bind_run rfl (bind_run (bind_run h2 (bind_run rfl (bind_run rfl rfl))) (bind_run (live_at hg) (by
    show M.bind (M.ofOpt (if l.length < sizeLine then some (PyData.list (l ++ [x]), PyData.none) else none)) _ st = _
    rw [if_pos hl]
    exact bind_run rfl (bind_run (setBox_at hg) rfl))))))
theorem tup2_run {f g : Sm W} {w v : W} {a b : PyData} (h : f cl ρ st = .ok w st1) (h1 : toD w st1 = .ok a st2) (h2 : g cl ρ st2 = .ok v st3) (h3 : toD v st3 = .ok b st4) : eTup [f, g] cl ρ st = .ok (.d (.tuple [a, b])) st4 :=
  bind_run (bind_run h (bind_run h1 (bind_run (bind_run h2 (bind_run h3 (bind_run rfl rfl))) rfl))) rfl
def put1 (st : Store) (v : PyData) : Store := st ++ [⟨v, .live⟩]
theorem put1_get (v : PyData) : (put1 st v)[st.length]? = some ⟨v, .live⟩ := by
  unfold put1
  rw [List.getElem?_append_right (Nat.le_refl _), Nat.sub_self]
  rfl
theorem put1_set (v u : PyData) : (put1 st v).set st.length ⟨u, .live⟩ = put1 st u := by
  unfold put1
  rw [List.set_append_right _ _ (Nat.le_refl _), Nat.sub_self]
  rfl
end
section
variable (k : Nat) (st : Store)
def orbs (F : List (List Bool)) (r : List Bool) (i : Nat) : List (List Bool) := (List.range i).map (orb F r)
theorem orbs_len (F : List (List Bool)) (r : List Bool) (i : Nat) : (orbs F r i).length = i := by
  unfold orbs
  rw [List.length_map, List.length_range]
theorem orbs_succ (F : List (List Bool)) (r : List Bool) (i : Nat) : orbs F r (i + 1) = orbs F r i ++ [orb F r i] := by
  unfold orbs
  rw [List.range_succ, List.map_append]
  rfl
theorem orbs_get (F : List (List Bool)) (r : List Bool) (i j : Nat) (h : j < i) : ((orbs F r i).map rowD)[j]? = some (rowD (orb F r j)) := by
  unfold orbs
  rw [List.getElem?_map, List.getElem?_map, List.getElem?_range h]
  rfl
theorem last_orb (F : List (List Bool)) (r : List Bool) (j : Nat) : itemD (.list ((orbs F r (j + 1)).map rowD)) (.int (-1)) = some (rowD (orb F r j)) := by
  show L2.atI ((orbs F r (j + 1)).map rowD) (-1) = _
  unfold L2.atI L2.ixN
  rw [List.length_map, orbs_len, if_neg (by decide), if_pos (by omega)]
  show ((orbs F r (j + 1)).map rowD)[((-1 : Int) + ((j + 1 : Nat) : Int)).toNat]? = _
  rw [show ((-1 : Int) + ((j + 1 : Nat) : Int)).toNat = j by omega]
  exact orbs_get F r _ _ (by omega)
abbrev nxt : Sm W := eCall i__law_step [(eVar 0), (eItem (eVar 2) (e1 (eD (.int 1)) negD))]
abbrev wρ (F : List (List Bool)) (r : List Bool) (st : Store) : Ev.Env := [some (.d (netD F)), some (.d (rowD r)), some (.bx st.length)]
theorem nxt_at {F : List (List Bool)} (hF : Net F) {r : List Bool} (hr : r.length = F.length) (j : Nat) {S : Store} {c : CSt} (h : S[st.length]? = some ⟨.list ((orbs F r (j + 1)).map rowD), c⟩) : nxt (callD tbl (k + 3)) (wρ F r st) S = .ok (.d (rowD (orb F r (j + 1)))) S :=
  call2 rfl (e2_gen (w := .bx st.length) (v := .d (.int (-1))) rfl (e1_run rfl rfl) (deref_at h) rfl (last_orb F r j)) (run__law_step k _ hF (by rw [orb_len hr]))
theorem nxt_run {F : List (List Bool)} (hF : Net F) {r : List Bool} (hr : r.length = F.length) (j : Nat) : nxt (callD tbl (k + 3)) (wρ F r st) (put1 st (.list ((orbs F r (j + 1)).map rowD))) = .ok (.d (rowD (orb F r (j + 1)))) (put1 st (.list ((orbs F r (j + 1)).map rowD))) :=
  nxt_at k st hF hr j (put1_get _)
theorem any_orb (F : List (List Bool)) (r s : List Bool) (i : Nat) (h : ∀ t, t < i → orb F r t ≠ s) : (orbs F r i).any (fun z => z == s) = false := by
  rw [List.any_eq_false]
  intro z hz
  obtain ⟨t, ht, rfl⟩ := List.mem_map.mp hz
  have := h t (List.mem_range.mp ht)
  simpa using this
theorem any_orb_t (F : List (List Bool)) (r s : List Bool) (i t : Nat) (ht : t < i) (h : orb F r t = s) : (orbs F r i).any (fun z => z == s) = true := by
  rw [List.any_eq_true]
  exact ⟨orb F r t, List.mem_map.mpr ⟨t, List.mem_range.mpr ht, rfl⟩, by rw [h]; exact beq_self_eq_true s⟩
/-- the rows told: the first m, and where the next one lies -/
structure Walk (F : List (List Bool)) (r : List Bool) (m t : Nat) : Prop where
  lt : t < m
  le : m ≤ 32
  again : orb F r t = orb F r m
  apart : ∀ i j, i < j → j < m → orb F r i ≠ orb F r j
abbrev wtest : Sm Bool := tOf (eCmp .NotIn nxt (eVar 2))
abbrev wbody : Ss := sSeq (sDrop (eMut (eVar 2) [nxt] appendK)) sNext
theorem walk_loop {F : List (List Bool)} (hF : Net F) {r : List Bool} (hr : r.length = F.length) {m t : Nat} (hw : Walk F r m t) : ∀ (d fuel j : Nat), j + 1 + d = m → d < fuel →
    whileLoop (wtest (callD tbl (k + 3))) (wbody (callD tbl (k + 3))) fuel (wρ F r st) (put1 st (.list ((orbs F r (j + 1)).map rowD))) = .ok (.nx, wρ F r st) (put1 st (.list ((orbs F r m).map rowD)))
  | 0, fuel + 1, j, h, hf => by
    obtain rfl : j + 1 = m := by omega
    refine while_f (bind_run (e2_gen (nxt_run k st hF hr j) rfl rfl (deref_at (put1_get _)) (c := .bool false) ?_) (bind_run rfl rfl))
    rw [notin_rows, any_orb_t F r _ _ t hw.lt hw.again]
    rfl
  | d + 1, fuel + 1, j, h, hf => by
    have hn := nxt_run k st hF hr j
    refine while_t (st1 := put1 st (.list ((orbs F r (j + 1)).map rowD))) (bind_run (e2_gen hn rfl rfl (deref_at (put1_get _)) (c := .bool true) ?_) (bind_run rfl rfl)) (seq_nx (drop_run (app_run (n := st.length) rfl (put1_get _) hn ?_)) rfl) ?_
    · rw [notin_rows, any_orb]
      · rfl
      · exact fun i hi => hw.apart i (j + 1) hi (by omega)
    · rw [List.length_map, orbs_len]
      have := hw.le
      exact Nat.lt_of_lt_of_le (show j + 1 < 33 by omega) (by decide)
    · rw [put1_set]
      have e : (orbs F r (j + 1)).map rowD ++ [rowD (orb F r (j + 1))] = (orbs F r (j + 1 + 1)).map rowD := by
        rw [orbs_succ F r (j + 1), List.map_append]
        rfl
      rw [e]
      exact walk_loop hF hr hw d fuel (j + 1) (by omega) (by omega)
theorem place_at {F : List (List Bool)} {r : List Bool} {m t : Nat} (hw : Walk F r m t) : Ev.placeOf (rowD (orb F r m)) ((orbs F r m).map rowD) = some t := by
  unfold Ev.placeOf
  rw [List.findIdx?_eq_some_iff_getElem]
  refine ⟨by rw [List.length_map, orbs_len]; exact hw.lt, ?_, ?_⟩
  · have := orbs_get F r m t hw.lt
    rw [List.getElem?_eq_some_iff] at this
    obtain ⟨_, h⟩ := this
    rw [h, eqv_row, hw.again]
    exact beq_self_eq_true _
  · intro j hj
    have hjm : j < m := Nat.lt_trans hj hw.lt
    have := orbs_get F r m j hjm
    rw [List.getElem?_eq_some_iff] at this
    obtain ⟨_, h⟩ := this
    rw [h, eqv_row, ← hw.again]
    have := hw.apart j t hj hw.lt
    simpa using this
theorem index_at {F : List (List Bool)} {r : List Bool} {m t : Nat} (hw : Walk F r m t) : indexM .list [.list ((orbs F r m).map rowD), rowD (orb F r m)] = some (.int (t : Nat)) := by
  show (if shallow (rowD (orb F r m)) && !isDict (rowD (orb F r m)) then (Ev.placeOf (rowD (orb F r m)) ((orbs F r m).map rowD)).map fun (j : Nat) => PyData.int (j : Int) else none) = _
  rw [place_at hw, if_pos (by simp [shallow, depth_row, isDict, rowD, PyData.depth, depth_bits])]
  rfl
def shut1 (st : Store) (v : PyData) : Store := st ++ [⟨v, .shut⟩]
theorem shut1_get (v : PyData) : (shut1 st v)[st.length]? = some ⟨v, .shut⟩ := by
  unfold shut1
  rw [List.getElem?_append_right (Nat.le_refl _), Nat.sub_self]
  rfl
theorem put1_shut (v u : PyData) : (put1 st v).set st.length ⟨u, .shut⟩ = shut1 st u := by
  unfold put1 shut1
  rw [List.set_append_right _ _ (Nat.le_refl _), Nat.sub_self]
  rfl
theorem run__law_walk {F : List (List Bool)} (hF : Net F) {r : List Bool} (hr : r.length = F.length) {m t : Nat} (hw : Walk F r m t) : callD tbl (k + 4) i__law_walk [.d (netD F), .d (rowD r)] st = .ok (.d (.tuple [.list ((orbs F r m).map rowD), .int (t : Nat)])) st := by
  rw [c__law_walk]
  obtain ⟨m', rfl⟩ : ∃ m', m = m' + 1 := ⟨m - 1, by have := hw.lt; omega⟩
  have hf : m' < wFuel := Nat.lt_trans (show m' < 33 by have := hw.le; omega) (by decide)
  have hl := walk_loop k st hF hr hw m' wFuel 0 (by omega) hf
  have hs : (shut1 st (.list ((orbs F r (m' + 1)).map rowD)))[st.length]? = some ⟨.list ((orbs F r (m' + 1)).map rowD), .shut⟩ := shut1_get st _
  have hm : eMeth (eVar 2) [nxt] indexM (callD tbl (k + 3)) (wρ F r st) (shut1 st (.list ((orbs F r (m' + 1)).map rowD))) = .ok (.d (.int (t : Nat))) (shut1 st (.list ((orbs F r (m' + 1)).map rowD))) := by
    refine bind_run rfl (bind_run (deref_at hs) (bind_run rfl (bind_run (bind_run (nxt_at k st hF hr m' hs) (bind_run rfl rfl)) (bind_run (bind_run (deref_at hs) (bind_run (bind_run rfl (bind_run rfl rfl)) rfl)) ?_))))
    show M.bind (M.ofOpt (indexM .list [.list ((orbs F r (m' + 1)).map rowD), rowD (orb F r (m' + 1))])) _ _ = _
    rw [index_at hw]
    rfl
  refine fn_d (ρ := wρ F r st) (st1 := [⟨.list ((orbs F r (m' + 1)).map rowD), .shut⟩]) rfl ?_ rfl
  refine seq_nx (st1 := put1 st (.list ((orbs F r 1).map rowD))) (ρ1 := wρ F r st) rfl (seq_nx hl (seq_ret (ret_run (tup2_run (w := .bx st.length) rfl ((toD_at (put1_get _)).trans (by rw [put1_shut])) hm rfl))))
end
end Law

set_option Elab.async false
set_option linter.all false
set_option maxRecDepth 100000
set_option maxHeartbeats 1000000
/-! The program's walk of a row: steps_from. -/
namespace Law
open PySem Ev
section
variable (k : Nat) (st : Store)
def dk (F : List (List Bool)) (r : List Bool) (i : Nat) : List (PyData × PyData) := (List.range i).map fun j => (rowD (orb F r j), .int (j : Nat))
theorem dk_len (F : List (List Bool)) (r : List Bool) (i : Nat) : (dk F r i).length = i := by
  unfold dk
  rw [List.length_map, List.length_range]
theorem keyed_bits : ∀ r : List Bool, keyedAll (r.map bitD) = true
  | [] => by simp [keyedAll]
  | b :: r => by simp [keyedAll, bitD, keyed, keyed_bits r]
theorem keyOk_row (r : List Bool) : keyOk (rowD r) = true := by
  simp [keyOk, depth_row, isNone, rowD, keyed, keyed_bits, PyData.depth, depth_bits]
theorem fits_dk (F : List (List Bool)) (r s : List Bool) (i : Nat) : keyFits (dk F r i) (rowD s) = true := by
  unfold keyFits
  rw [keyOk_row, Bool.true_and, List.all_eq_true]
  intro kv hkv
  obtain ⟨j, _, rfl⟩ := List.mem_map.mp hkv
  rfl
theorem any_dk (F : List (List Bool)) (r s : List Bool) (i : Nat) : ((dk F r i).any fun kv => PyData.eqv kv.1 (rowD s)) = (orbs F r i).any fun z => z == s := by
  unfold dk orbs
  rw [List.any_map, List.any_map]
  congr 1
  funext j
  exact eqv_row _ _
theorem notin_dk (F : List (List Bool)) (r s : List Bool) (i : Nat) : cmpD .NotIn (rowD s) (.dict (dk F r i)) = some (!(orbs F r i).any fun z => z == s) := by
  show (if keyFits (dk F r i) (rowD s) then some (!(dk F r i).any fun kv => PyData.eqv kv.1 (rowD s)) else none) = _
  rw [if_pos (fits_dk _ _ _ _), any_dk]
theorem put_dk (F : List (List Bool)) (r : List Bool) (i : Nat) (h : ∀ t, t < i → orb F r t ≠ orb F r i) (hi : i < sizeLine) : putD (.dict (dk F r i)) (rowD (orb F r i)) (.int (i : Nat)) = some (.dict (dk F r (i + 1))) := by
  show (if keyFits (dk F r i) (rowD (orb F r i)) && decide ((dk F r i).length < sizeLine) then some (PyData.dict (putK (dk F r i) (rowD (orb F r i)) (.int (i : Nat)))) else none) = _
  rw [fits_dk, dk_len, decide_eq_true hi, if_pos (by rfl)]
  unfold putK
  rw [any_dk, any_orb F r _ _ h, if_neg (by decide)]
  unfold dk
  rw [List.range_succ, List.map_append]
  rfl
theorem get_dk {F : List (List Bool)} {r : List Bool} {m t : Nat} (hw : Walk F r m t) : itemD (.dict (dk F r m)) (rowD (orb F r m)) = some (.int (t : Nat)) := by
  show (if keyFits (dk F r m) (rowD (orb F r m)) then ((dk F r m).find? fun kv => PyData.eqv kv.1 (rowD (orb F r m))).map (·.2) else none) = _
  rw [if_pos (fits_dk _ _ _ _)]
  have e : ((dk F r m).find? fun kv => PyData.eqv kv.1 (rowD (orb F r m))) = some (rowD (orb F r t), .int (t : Nat)) := by
    rw [List.find?_eq_some_iff_getElem]
    refine ⟨by simp [eqv_row, hw.again], t, by rw [dk_len]; exact hw.lt, by simp [dk], ?_⟩
    intro j hj
    have := hw.apart j t hj hw.lt
    rw [hw.again] at this
    simpa [dk, eqv_row] using this
  rw [e]
  rfl
def put2 (st : Store) (a b : PyData) : Store := st ++ [⟨a, .live⟩, ⟨b, .live⟩]
theorem put2_get0 (a b : PyData) : (put2 st a b)[st.length]? = some ⟨a, .live⟩ := by
  unfold put2
  rw [List.getElem?_append_right (Nat.le_refl _), Nat.sub_self]
  rfl
theorem put2_get1 (a b : PyData) : (put2 st a b)[st.length + 1]? = some ⟨b, .live⟩ := by
  unfold put2
  rw [List.getElem?_append_right (by omega), show st.length + 1 - st.length = 1 by omega]
  rfl
theorem put2_set0 (a b u : PyData) : (put2 st a b).set st.length ⟨u, .live⟩ = put2 st u b := by
  unfold put2
  rw [List.set_append_right _ _ (Nat.le_refl _), Nat.sub_self]
  rfl
theorem put2_set1 (a b u : PyData) : (put2 st a b).set (st.length + 1) ⟨u, .live⟩ = put2 st a u := by
  unfold put2
  rw [List.set_append_right _ _ (by omega), show st.length + 1 - st.length = 1 by omega]
  rfl
theorem put2_shut (a b u : PyData) : (put2 st a b).set st.length ⟨u, .shut⟩ = st ++ [⟨u, .shut⟩, ⟨b, .live⟩] := by
  unfold put2
  rw [List.set_append_right _ _ (Nat.le_refl _), Nat.sub_self]
  rfl
theorem sput_run {cl : Calls} {ρ : Ev.Env} {f g h : Sm W} {n : Nat} {S : Store} {a i v c : PyData} (h1 : h cl ρ S = .ok (.d v) S) (h2 : f cl ρ S = .ok (.bx n) S) (h3 : g cl ρ S = .ok (.d i) S) (hg : S[n]? = some ⟨a, .live⟩) (hp : putD a i v = some c) : sPut f g h cl ρ S = .ok (.nx, ρ) (S.set n ⟨c, .live⟩) :=
  bind_run h1 (bind_run rfl (bind_run h2 (bind_run (bind_run h3 rfl) (bind_run (live_at hg) (by
    show M.bind (M.ofOpt (putD a i v)) _ S = _
    rw [hp]
    exact bind_run rfl (bind_run (setBox_at hg) rfl))))))
theorem len_bx {cl : Calls} {ρ : Ev.Env} {f : Sm W} {n : Nat} {S : Store} {l : List PyData} {c : CSt} (h : f cl ρ S = .ok (.bx n) S) (hg : S[n]? = some ⟨.list l, c⟩) : eBi [f] lenD cl ρ S = .ok (.d (.int l.length)) S :=
  bind_run (bind_run h (bind_run rfl rfl)) (bind_run (bind_run (deref_at hg) (bind_run rfl rfl)) rfl)
abbrev sρ (F : List (List Bool)) (r : List Bool) (st : Store) : Ev.Env := [some (.d (netD F)), some (.d (rowD r)), some (.bx st.length), some (.bx (st.length + 1))]
abbrev stest : Sm Bool := (tOf (eCmp .NotIn (eVar 1) (eVar 3)))
abbrev sbody : Ss := (sSeq (sPut (eVar 3) (eVar 1) (eBi [(eVar 2)] lenD)) (sSeq (sDrop (eMut (eVar 2) [(eVar 1)] appendK)) (sSeq (sSet 1 (eCall i_step_in [(eVar 0), (eVar 1)])) sNext)))
theorem steps_loop {F : List (List Bool)} (hF : Net F) {r : List Bool} (hr : r.length = F.length) {m t : Nat} (hw : Walk F r m t) : ∀ (d fuel j : Nat), j + d = m → d < fuel →
    whileLoop (stest (callD tbl (k + 3))) (sbody (callD tbl (k + 3))) fuel (sρ F (orb F r j) st) (put2 st (.list ((orbs F r j).map rowD)) (.dict (dk F r j))) = .ok (.nx, sρ F (orb F r m) st) (put2 st (.list ((orbs F r m).map rowD)) (.dict (dk F r m)))
  | 0, fuel + 1, j, h, hf => by
    obtain rfl : j = m := by omega
    refine while_f (bind_run (e2_gen (c := .bool false) rfl rfl rfl (deref_at (put2_get1 st _ _)) ?_) (bind_run rfl rfl))
    rw [notin_dk, any_orb_t F r _ _ t hw.lt hw.again]
    rfl
  | d + 1, fuel + 1, j, h, hf => by
    have hj : j < sizeLine := Nat.lt_trans (show j < 33 by have := hw.le; omega) (by decide)
    have hap : ∀ i, i < j → orb F r i ≠ orb F r j := fun i hi => hw.apart i j hi (by omega)
    have hlen : ((orbs F r j).map rowD).length = j := by rw [List.length_map, orbs_len]
    have e : (orbs F r j).map rowD ++ [rowD (orb F r j)] = (orbs F r (j + 1)).map rowD := by
      rw [orbs_succ F r j, List.map_append]
      rfl
    have hl : eBi [(eVar 2)] lenD (callD tbl (k + 3)) (sρ F (orb F r j) st) (put2 st (.list ((orbs F r j).map rowD)) (.dict (dk F r j))) = .ok (.d (.int (j : Nat))) (put2 st (.list ((orbs F r j).map rowD)) (.dict (dk F r j))) := by
      have := len_bx (cl := callD tbl (k + 3)) (ρ := sρ F (orb F r j) st) (f := eVar 2) (n := st.length) rfl (put2_get0 st (.list ((orbs F r j).map rowD)) (.dict (dk F r j)))
      rw [hlen] at this
      exact this
    refine while_t (st1 := put2 st (.list ((orbs F r j).map rowD)) (.dict (dk F r j))) (bind_run (e2_gen (c := .bool true) rfl rfl rfl (deref_at (put2_get1 st _ _)) ?_) (bind_run rfl rfl)) (seq_nx ((sput_run hl rfl rfl (put2_get1 st _ _) (put_dk F r j hap hj)).trans (by rw [put2_set1])) (seq_nx (drop_run ((app_run (n := st.length) rfl (put2_get0 st _ _) rfl (by rw [hlen]; exact hj)).trans (by rw [put2_set0, e]))) (seq_nx (set_run (call2 rfl rfl (run_step_in k _ hF (by rw [orb_len hr])))) rfl))) ?_
    · rw [notin_dk, any_orb F r _ _ hap]
      rfl
    · exact steps_loop hF hr hw d fuel (j + 1) (by omega) (by omega)
theorem run_steps_from {F : List (List Bool)} (hF : Net F) {r : List Bool} (hr : r.length = F.length) {m t : Nat} (hw : Walk F r m t) : callD tbl (k + 4) i_steps_from [.d (netD F), .d (rowD r)] st = .ok (.d (.tuple [.list ((orbs F r m).map rowD), .int (t : Nat)])) st := by
  rw [c_steps_from]
  have hf : m < wFuel := Nat.lt_trans (show m < 33 by have := hw.le; omega) (by decide)
  have hl := steps_loop k st hF hr hw m wFuel 0 (by omega) hf
  have hg : (st ++ [⟨.list ((orbs F r m).map rowD), .shut⟩, ⟨.dict (dk F r m), .live⟩] : Store)[st.length + 1]? = some ⟨.dict (dk F r m), .live⟩ := by
    rw [List.getElem?_append_right (by omega), show st.length + 1 - st.length = 1 by omega]
    rfl
  refine fn_d (ρ := sρ F (orb F r m) st) (st1 := [⟨.list ((orbs F r m).map rowD), .shut⟩, ⟨.dict (dk F r m), .live⟩]) rfl ?_ rfl
  refine seq_nx (st1 := put2 st (.list []) (.dict [])) (ρ1 := sρ F r st) ?_ (seq_nx hl (seq_ret (ret_run (tup2_run (w := .bx st.length) rfl ((toD_at (put2_get0 st _ _)).trans (by rw [put2_shut])) (e2_gen rfl rfl (deref_at hg) rfl (get_dk hw)) rfl))))
  refine par2_run (a := .bx st.length) (b := .bx (st.length + 1)) (st1 := put1 st (.list [])) rfl ?_
  show Out.ok (W.bx (put1 st (.list [])).length) (put1 st (.list []) ++ [⟨.dict [], .live⟩]) = _
  unfold put1 put2
  rw [List.length_append, List.append_assoc]
  rfl
end
end Law

set_option Elab.async false
set_option linter.all false
set_option maxRecDepth 100000
set_option maxHeartbeats 1000000
/-! tail_length, row_after. -/
namespace Law
open PySem Ev
section
variable (k : Nat) (st : Store)
theorem run_tail_length {F : List (List Bool)} (hF : Net F) {r : List Bool} (hr : r.length = F.length) {m t : Nat} (hw : Walk F r m t) : callD tbl (k + 6) i_tail_length [.d (netD F), .d (rowD r)] st = .ok (.d (.int (t : Nat))) st := by
  rw [c_tail_length]
  exact fn_d0 rfl (seq_nx (drop_run (call2 rfl rfl (run_need_row_of k st hF hr))) (seq_ret (ret_run (e2_run (call2 rfl rfl (run_steps_from (k + 1) st hF hr hw)) rfl rfl))))
theorem orb_period {F : List (List Bool)} {r : List Bool} {m t : Nat} (hw : Walk F r m t) : ∀ j, orb F r (m + j) = orb F r (t + j)
  | 0 => hw.again.symm
  | j + 1 => by
    show stepR F (orb F r (m + j)) = stepR F (orb F r (t + j))
    rw [orb_period hw j]
theorem orb_far {F : List (List Bool)} {r : List Bool} {m t : Nat} (hw : Walk F r m t) : ∀ q j, orb F r (t + j + (m - t) * q) = orb F r (t + j)
  | 0, j => by rw [Nat.mul_zero, Nat.add_zero]
  | q + 1, j => by
    have h := orb_period hw (j + (m - t) * q)
    have e : t + j + (m - t) * (q + 1) = m + (j + (m - t) * q) := by
      rw [Nat.mul_succ]; have := hw.lt; omega
    rw [e, h, show t + (j + (m - t) * q) = t + j + (m - t) * q by omega]
    exact orb_far hw q j
theorem orb_mod {F : List (List Bool)} {r : List Bool} {m t : Nat} (hw : Walk F r m t) (n : Nat) (h : t ≤ n) : orb F r (t + (n - t) % (m - t)) = orb F r n := by
  have h2 := orb_far hw ((n - t) / (m - t)) ((n - t) % (m - t))
  have e : t + (n - t) % (m - t) + (m - t) * ((n - t) / (m - t)) = n := by
    have := Nat.mod_add_div (n - t) (m - t)
    omega
  rw [e] at h2
  exact h2.symm
theorem item_orb {F : List (List Bool)} {r : List Bool} {m j : Nat} (h : j < m) : itemD (.list ((orbs F r m).map rowD)) (.int (j : Nat)) = some (rowD (orb F r j)) := by
  show L2.atI ((orbs F r m).map rowD) (j : Int) = _
  have hl : j < ((orbs F r m).map rowD).length := by rw [List.length_map, orbs_len]; exact h
  rw [atI_nat _ _ hl, ← List.getElem?_eq_getElem hl, orbs_get F r m j h]
end
end Law

set_option Elab.async false
set_option linter.all false
set_option maxRecDepth 100000
set_option maxHeartbeats 1000000
/-! Lots. -/
namespace Law
open PySem Ev
section
variable (k : Nat) (st : Store)
/-- a cup: two numbers in a box -/
def Cup (st : Store) (n : Nat) : Prop := ∃ a b : Int, st[n]? = some ⟨.list [.int a, .int b], .live⟩ ∧ 0 ≤ b ∧ b < 2 ^ 40
theorem item_bx {cl : Calls} {ρ : Ev.Env} {f g : Sm W} {n : Nat} {S : Store} {a x i : PyData} {c : CSt} (h : f cl ρ S = .ok (.bx n) S) (h2 : g cl ρ S = .ok (.d i) S) (hg : S[n]? = some ⟨a, c⟩) (hk : itemD a i = some x) : eItem f g cl ρ S = .ok (.d x) S :=
  e2_gen h h2 (deref_at hg) rfl hk
theorem put_len {st : Store} {n : Nat} {c : Cell} : (st.set n c).length = st.length := List.length_set
theorem get_put {st : Store} {n : Nat} {c d : Cell} (h : st[n]? = some d) : (st.set n c)[n]? = some c := by
  have : n < st.length := by
    rw [List.getElem?_eq_some_iff] at h
    exact h.1
  rw [List.getElem?_set_self this]
theorem fn_dS {cl : Calls} {ρ : Ev.Env} {st st2 : Store} {np ns : Nat} {body : Ss} {ws : List W} {x : PyData} (hl : ws.length = np) (h : body cl (ws.map some ++ List.replicate (ns - ws.length) none) st = .ok (.ret (.d x), ρ) st2) (h2 : st2.length = st.length) : runFn ⟨np, ns, false, body⟩ cl ws st = .ok (.d x) st2 := by
  unfold runFn
  simp only [hl, if_true] at h ⊢
  rw [h]
  show Out.ok (W.d x) (st2.take st.length) = _
  rw [← h2, List.take_length]
/-- a roll while the great number lasts -/
theorem run__law_roll_a {n : Nat} {a b many : Int} (h : st[n]? = some ⟨.list [.int a, .int b], .live⟩) (ha : 0 < a) (hm : 0 < many) (hm2 : many.natAbs < 2 ^ 200) : callD tbl (k + 1) i__law_roll [.bx n, .d (.int many)] st = .ok (.d (.int (a % many))) (st.set n ⟨.list [.int (a / many), .int b], .live⟩) := by
  rw [c__law_roll]
  refine fn_dS (ρ := [some (.bx n), some (.d (.int many)), none, some (.d (.int (a % many)))]) rfl ?_ put_len
  refine seq_ret (if_t (tofB (cmp_run (item_bx rfl rfl h rfl) rfl (show some (decide ((0 : Int) < a)) = some true by rw [decide_eq_true ha]))) (seq_nx (set_run (e2_run (bi1 (item_bx rfl rfl h rfl) rfl) rfl (show (if 0 < many then some (PyData.int (a % many)) else none) = _ by rw [if_pos hm]))) (seq_nx (sput_run (n := n) (e2_run (item_bx rfl rfl h rfl) rfl (show (if 0 < many ∧ many.natAbs < 2 ^ 200 then some (PyData.int (a / many)) else none) = _ by rw [if_pos ⟨hm, hm2⟩])) rfl rfl h rfl) (seq_ret (ret_run rfl)))))
def nextB (b : Int) : Int := (b * 31051 + 7993) % 2147483543
def lotB (b many : Int) : Int := (nextB b * (nextB b + 229) % 2147483587 / 821) % many
/-- a roll after that -/
theorem run__law_roll_b {n : Nat} {a b many : Int} (h : st[n]? = some ⟨.list [.int a, .int b], .live⟩) (ha : ¬ 0 < a) (hm : 0 < many) : callD tbl (k + 1) i__law_roll [.bx n, .d (.int many)] st = .ok (.d (.int (lotB b many))) (st.set n ⟨.list [.int a, .int (nextB b)], .live⟩) := by
  rw [c__law_roll]
  have hb : 0 ≤ nextB b ∧ nextB b < 2147483543 := ⟨Int.emod_nonneg _ (by decide), Int.emod_lt_of_pos _ (by decide)⟩
  have h2 := get_put (c := ⟨.list [.int a, .int (nextB b)], .live⟩) h
  have m1 : mulOk b 31051 = true := by simp [mulOk]
  have m2 : mulOk (nextB b) (nextB b + 229) = true := by
    unfold mulOk
    rw [decide_eq_true (show -(2 ^ 64) < nextB b by omega), decide_eq_true (show nextB b < 2 ^ 64 by omega)]
    rfl
  refine fn_dS (ρ := [some (.bx n), some (.d (.int many)), some (.d (.int (nextB b * (nextB b + 229) % 2147483587))), none]) rfl ?_ put_len
  refine seq_nx (if_f (tofB (cmp_run (item_bx rfl rfl h rfl) rfl (show some (decide ((0 : Int) < a)) = some false by rw [decide_eq_false ha]))) rfl) (seq_nx (sput_run (n := n) (c := .list [.int a, .int (nextB b)]) (e2_run (bi1 (e2_run (e2_run (item_bx rfl rfl h rfl) rfl (show (if mulOk b 31051 then some (PyData.int (b * 31051)) else none) = _ by rw [if_pos m1])) rfl rfl) rfl) rfl rfl) rfl rfl h rfl) (seq_nx (set_run (e2_run (bi1 (e2_run (item_bx rfl rfl h2 rfl) (e2_run (item_bx rfl rfl h2 rfl) rfl rfl) (show (if mulOk (nextB b) (nextB b + 229) then some (PyData.int (nextB b * (nextB b + 229))) else none) = _ by rw [if_pos m2])) rfl) rfl rfl)) (seq_ret (ret_run (e2_run (bi1 (e2_run rfl rfl rfl) rfl) rfl (show (if 0 < many then some (PyData.int (nextB b * (nextB b + 229) % 2147483587 / 821 % many)) else none) = _ by rw [if_pos hm]; rfl))))))
/-- a roll: some number below many; the cup stays a cup -/
theorem run__law_roll {n : Nat} {a b many : Int} (h : st[n]? = some ⟨.list [.int a, .int b], .live⟩) (hm : 0 < many) (hm2 : many.natAbs < 2 ^ 200) : ∃ v a' b' : Int, 0 ≤ v ∧ v < many ∧ callD tbl (k + 1) i__law_roll [.bx n, .d (.int many)] st = .ok (.d (.int v)) (st.set n ⟨.list [.int a', .int b'], .live⟩) := by
  by_cases ha : 0 < a
  · exact ⟨_, _, _, Int.emod_nonneg _ (by omega), Int.emod_lt_of_pos _ hm, run__law_roll_a k st h ha hm hm2⟩
  · exact ⟨_, _, _, Int.emod_nonneg _ (by omega), Int.emod_lt_of_pos _ hm, run__law_roll_b k st h ha hm⟩
end
end Law

set_option Elab.async false
set_option linter.all false
set_option maxRecDepth 100000
set_option maxHeartbeats 1000000
/-! All rows; one of some. -/
namespace Law
open PySem Ev
section
variable (k : Nat) (st : Store)
theorem call2w {cl : Calls} {ρ : Ev.Env} {st st1 st2 : Store} {i : Nat} {f g : Sm W} {w v : W} {r : Out W} (h : f cl ρ st = .ok w st1) (hw : argW w st1 = .ok w st1) (h2 : g cl ρ st1 = .ok v st2) (hv : argW v st2 = .ok v st2) (hc : cl i [w, v] st2 = r) : eCall i [f, g] cl ρ st = r :=
  bind_run (bind_run h (bind_run hw (bind_run (bind_run h2 (bind_run hv (bind_run rfl rfl))) rfl))) hc
theorem arg_bx {st : Store} {n : Nat} {v : PyData} (h : st[n]? = some ⟨v, .live⟩) : argW (.bx n) st = .ok (.bx n) st := by
  simp only [argW, h]
theorem run__law_some {n : Nat} {a b : Int} {xs : List PyData} (h : st[n]? = some ⟨.list [.int a, .int b], .live⟩) (hx : xs ≠ []) (hl : xs.length < 2 ^ 60) : ∃ x a' b', x ∈ xs ∧ callD tbl (k + 2) i__law_some [.bx n, .d (.list xs)] st = .ok (.d x) (st.set n ⟨.list [.int a', .int b'], .live⟩) := by
  have h0 : 0 < xs.length := List.length_pos_iff.mpr hx
  obtain ⟨v, a', b', hv, hv2, hr⟩ := run__law_roll k st (many := (xs.length : Nat)) h (by omega) (by
    rw [Int.natAbs_natCast]; exact Nat.lt_trans hl (by decide))
  obtain ⟨j, rfl⟩ : ∃ j : Nat, v = j := ⟨v.toNat, by omega⟩
  have hj : j < xs.length := by omega
  refine ⟨xs[j], a', b', List.getElem_mem hj, ?_⟩
  rw [c__law_some]
  refine fn_dS (ρ := [some (.bx n), some (.d (.list xs))]) rfl (seq_ret (ret_run (e2_gen (w := .d (.list xs)) (v := .d (.int j)) rfl ?_ rfl rfl (atI_nat xs j hj)))) put_len
  exact call2w (w := .bx n) rfl (arg_bx h) (bi1 rfl rfl) rfl hr
end
end Law

set_option Elab.async false
set_option linter.all false
set_option maxRecDepth 100000
set_option maxHeartbeats 1000000
/-! All rows. -/
namespace Law
open PySem Ev
def rowsF : Nat → List (List Bool)
  | 0 => [[]]
  | n + 1 => (rowsF n).flatMap fun r => [r ++ [false], r ++ [true]]
theorem rowsF_len : ∀ n, ∀ r ∈ rowsF n, r.length = n
  | 0, r, h => by
    simp [rowsF] at h
    rw [h]; rfl
  | n + 1, r, h => by
    obtain ⟨s, hs, h2⟩ := List.mem_flatMap.mp h
    have := rowsF_len n s hs
    simp at h2
    rcases h2 with e | e <;> rw [e] <;> simp [this]
theorem rowsF_size : ∀ n, (rowsF n).length = 2 ^ n
  | 0 => rfl
  | n + 1 => by
    show ((rowsF n).flatMap fun r => [r ++ [false], r ++ [true]]).length = _
    rw [List.length_flatMap]
    have : ∀ l : List (List Bool), (l.map fun r => ([r ++ [false], r ++ [true]] : List (List Bool)).length).sum = 2 * l.length := by
      intro l
      induction l with
      | nil => rfl
      | cons a l ih => rw [List.map_cons, List.sum_cons, ih]; simp; omega
    rw [this, rowsF_size n, Nat.pow_succ, Nat.mul_comm]
end Law

set_option Elab.async false
set_option linter.all false
set_option maxRecDepth 100000
set_option maxHeartbeats 1000000
namespace Law
open PySem Ev
section
variable (k : Nat) (st : Store)
abbrev in26 : Ss := (sSeq (sSet 3 (eBin .Add (eVar 3) (eNew (nList [(eBin .Add (eVar 4) (eTup [(eD (.int 0))])), (eBin .Add (eVar 4) (eTup [(eD (.int 1))]))])))) sNext)
theorem list2_run {cl : Calls} {ρ : Ev.Env} {f g : Sm W} {a b : PyData} (h : f cl ρ st = .ok (.d a) st) (h2 : g cl ρ st = .ok (.d b) st) : eNew (nList [f, g]) cl ρ st = .ok (.d (.list [a, b])) st :=
  new_run (bind_run (bind_run h (bind_run rfl (bind_run (bind_run h2 (bind_run rfl (bind_run rfl rfl))) rfl))) rfl)
theorem cat_row (r : List Bool) (b : Bool) (h : r.length ≤ 5) : binD .Add (rowD r) (.tuple [bitD b]) = some (rowD (r ++ [b])) := by
  show (if (r.map bitD).length + 1 ≤ sizeLine then some (PyData.tuple (r.map bitD ++ [bitD b])) else none) = _
  rw [if_pos (by rw [List.length_map]; exact Nat.le_trans (show r.length + 1 ≤ 6 by omega) (by decide))]
  unfold rowD
  rw [List.map_append]
  rfl
theorem in26_loop (cl : Calls) (a b c : Option W) : ∀ (l acc : List (List Bool)) (o : Option W), (∀ r ∈ l, r.length ≤ 5) → acc.length + 2 * l.length ≤ 1000 → ∃ o', forLoop (asgD (.name 4)) (in26 cl) (l.map rowD) [a, b, c, some (.d (.list (acc.map rowD))), o] st =
    .ok (.nx, [a, b, c, some (.d (.list ((acc ++ l.flatMap fun r => [r ++ [false], r ++ [true]]).map rowD))), o']) st
  | [], acc, o, _, _ => ⟨o, by simp [forLoop, M.pure]⟩
  | r :: l, acc, o, h, hl => by
    have hr := h r List.mem_cons_self
    have hl2 : acc.length + 2 * l.length + 2 ≤ 1000 := by rw [List.length_cons] at hl; omega
    obtain ⟨o', ih⟩ := in26_loop cl a b c l (acc ++ [r ++ [false], r ++ [true]]) (some (.d (rowD r))) (fun s hs => h s (List.mem_cons_of_mem _ hs)) (by simp; omega)
    refine ⟨o', for_nx (st1 := st) rfl (seq_nx (set_run (w := .d (.list ((acc ++ [r ++ [false], r ++ [true]]).map rowD))) ?_) rfl) ?_⟩
    · refine e2_run rfl (list2_run st (e2_run rfl rfl (cat_row r false hr)) (e2_run rfl rfl (cat_row r true hr))) ?_
      show (if (acc.map rowD).length + 2 ≤ sizeLine then some (PyData.list (acc.map rowD ++ [rowD (r ++ [false]), rowD (r ++ [true])])) else none) = _
      rw [if_pos (by rw [List.length_map]; exact Nat.le_trans (show acc.length + 2 ≤ 1000 by omega) (by decide)), List.map_append]
      rfl
    · rw [List.flatMap_cons, ← List.append_assoc]
      exact ih
end
end Law

set_option Elab.async false
set_option linter.all false
set_option maxRecDepth 100000
set_option maxHeartbeats 1000000
namespace Law
open PySem Ev
section
variable (k : Nat) (st : Store)
theorem out26_loop (cl : Calls) (a : Option W) : ∀ (xs : List PyData) (i : Nat) (o2 o3 o4 : Option W), i + xs.length ≤ 5 → ∃ p2 p3 p4, forLoop (asgD (.name 2)) (sSeq (sSet 3 (eNew (nList []))) (sSeq (sFor (.name 4) (iOf (eVar 1)) in26) (sSeq (sSet 1 (eVar 3)) sNext)) cl) xs [a, some (.d (.list ((rowsF i).map rowD))), o2, o3, o4] st =
    .ok (.nx, [a, some (.d (.list ((rowsF (i + xs.length)).map rowD))), p2, p3, p4]) st
  | [], i, o2, o3, o4, _ => ⟨o2, o3, o4, rfl⟩
  | x :: xs, i, o2, o3, o4, h => by
    have hi : i + 1 + xs.length ≤ 5 := by rw [List.length_cons] at h; omega
    have hs : (rowsF i).length ≤ 32 := by rw [rowsF_size]; exact Nat.le_trans (Nat.pow_le_pow_right (by decide) (show i ≤ 5 by omega)) (by decide)
    obtain ⟨o', h1⟩ := in26_loop st cl a (some (.d (.list ((rowsF i).map rowD)))) (some (.d x)) (rowsF i) [] o4 (fun r hr => by rw [rowsF_len i r hr]; omega) (by rw [List.length_nil]; omega)
    obtain ⟨p2, p3, p4, ih⟩ := out26_loop cl a xs (i + 1) (some (.d x)) (some (.d (.list ((rowsF (i + 1)).map rowD)))) o' hi
    refine ⟨p2, p3, p4, for_nx (st1 := st) rfl (seq_nx (set_run (new_run rfl)) (seq_nx (for_run (s := ⟨(rowsF i).map rowD, []⟩) (iof_d rfl rfl) h1) (seq_nx (set_run rfl) rfl))) ?_⟩
    rw [List.length_cons, show i + (xs.length + 1) = i + 1 + xs.length by omega]
    exact ih
theorem run__law_rows (n : Nat) (h : n ≤ 5) : callD tbl (k + 1) i__law_rows [.d (.int (n : Nat))] st = .ok (.d (.list ((rowsF n).map rowD))) st := by
  rw [c__law_rows]
  have hl : (Ev.intsFrom 0 n).length = n := by
    unfold Ev.intsFrom
    rw [List.length_map, List.length_range]
  obtain ⟨p2, p3, p4, h1⟩ := out26_loop st (callD tbl k) (some (.d (.int (n : Nat)))) (Ev.intsFrom 0 n) 0 none none none (by rw [hl]; omega)
  rw [hl, Nat.zero_add] at h1
  have hr : iRange1 (eVar 0) (callD tbl k) [some (.d (.int (n : Nat))), some (.d (.list ((rowsF 0).map rowD))), none, none, none] st = .ok ⟨Ev.intsFrom 0 n, []⟩ st := by
    refine bind_run rfl ?_
    show (if -(2 ^ 62) ≤ (n : Int) ∧ (n : Int) ≤ 16777216 then M.pure (⟨Ev.intsFrom 0 (n : Int).toNat, []⟩ : Src) else M.no) st = _
    rw [if_pos ⟨by omega, by omega⟩]
    rfl
  exact fn_d0 rfl (seq_nx (set_run (new_run rfl)) (seq_nx (for_run hr h1) (seq_ret (ret_run rfl))))
end
end Law

set_option Elab.async false
set_option linter.all false
set_option maxRecDepth 100000
set_option maxHeartbeats 1000000
namespace Law
open PySem Ev
section
variable (k : Nat) (st : Store)
theorem ifx_run {cl : Calls} {ρ : Ev.Env} {t : Sm Bool} {f g : Sm W} {b : Bool} {x y : PyData} (h : t cl ρ st = .ok b st) (h1 : f cl ρ st = .ok (.d x) st) (h2 : g cl ρ st = .ok (.d y) st) : eIf t f g cl ρ st = .ok (.d (if b then x else y)) st := by
  cases b with
  | true => exact ifx_t h h1
  | false => exact ifx_f h h2
theorem run__law_cup (ns : List Int) (hn : ns.length ≤ 63) : ∃ a b : Int, callD tbl (k + 1) i__law_cup [.d (.list (ns.map .int))] st = .ok (.bx st.length) (st ++ [⟨.list [.int a, .int b], .live⟩]) := by
  rw [c__law_cup]
  obtain ⟨v, hv⟩ : ∃ v : Int, itemD (.list (ns.map .int ++ [.int 0])) (.int 0) = some (.int v) := by
    cases ns with
    | nil => exact ⟨0, rfl⟩
    | cons a ns => exact ⟨a, by
        show L2.atI (PyData.int a :: (ns.map .int ++ [.int 0])) ((0 : Nat) : Int) = _
        rw [atI_nat _ 0 (by simp)]
        rfl⟩
  let A : Int := if v < 0 then -v else v
  let X : Int := if decide ((1000000000000000000 : Int) ≤ A) then A / 73 else 0
  let Y : Int := (A * 283 + 3907) % 2077503167 + 167
  refine ⟨X, Y, ?_⟩
  have hc : binD .Add (.list (ns.map .int)) (.list [.int 0]) = some (.list (ns.map .int ++ [.int 0])) := by
    show (if (ns.map PyData.int).length + 1 ≤ sizeLine then some (PyData.list (ns.map .int ++ [.int 0])) else none) = _
    rw [if_pos (by rw [List.length_map]; exact Nat.le_trans (show ns.length + 1 ≤ 64 by omega) (by decide))]
  let ρ : Ev.Env := [some (.d (.list (ns.map .int))), some (.d (.int A))]
  have m1 : mulOk A 283 = true := by unfold mulOk; simp
  have p18 : binD .Pow (.int 10) (.int 18) = some (.int 1000000000000000000) := by kernel_rfl
  have hx : eIf (tOf (eCmp .GtE (eVar 1) (eBin .Pow (eD (.int 10)) (eD (.int 18))))) (eBin .FloorDiv (eVar 1) (eD (.int 73))) (eD (.int 0)) (callD tbl k) ρ st = .ok (.d (.int X)) st := by
    have := ifx_run st (cl := callD tbl k) (ρ := ρ) (tofB (cmp_run (op := .GtE) (c := decide ((1000000000000000000 : Int) ≤ A)) (f := eVar 1) (g := eBin .Pow (eD (.int 10)) (eD (.int 18))) (a := .int A) (b := .int 1000000000000000000) rfl (e2_run rfl rfl p18) rfl)) (e2_run (f := eVar 1) (g := eD (.int 73)) (k := binD .FloorDiv) (a := .int A) (c := .int (A / 73)) rfl rfl rfl) (g := eD (.int 0)) rfl
    refine this.trans ?_
    show Out.ok (W.d (if decide ((1000000000000000000 : Int) ≤ A) then .int (A / 73) else .int 0)) st = .ok (.d (.int (if decide ((1000000000000000000 : Int) ≤ A) then A / 73 else 0))) st
    cases decide ((1000000000000000000 : Int) ≤ A) <;> rfl
  have hy : eBin .Add (eBin .Mod (eBi [(eBin .Add (eBin .Mult (eVar 1) (eD (.int 283))) (eD (.int 3907)))] intB) (eD (.int 2077503167))) (eD (.int 167)) (callD tbl k) ρ st = .ok (.d (.int Y)) st :=
    e2_run (e2_run (bi1 (e2_run (e2_run rfl rfl (show (if mulOk A 283 then some (PyData.int (A * 283)) else none) = _ by rw [if_pos m1])) rfl rfl) rfl) rfl rfl) rfl rfl
  have hb : m__law_cup (callD tbl k) [some (.d (.list (ns.map .int))), none] st = .ok (.ret (.bx st.length), ρ) (st ++ [⟨.list [.int X, .int Y], .live⟩]) := by
    refine seq_nx (set_run (bi1 (e2_run (e2_run (new_run (bind_run (bind_run rfl (bind_run rfl rfl)) (bind_run rfl rfl))) (new_run rfl) hc) rfl hv) rfl)) (seq_ret (ret_run ?_))
    exact bind_run (a := .list [.int X, .int Y]) (bind_run (bind_run hx (bind_run rfl (bind_run (bind_run hy (bind_run rfl (bind_run rfl rfl))) rfl))) rfl) rfl
  unfold runFn
  show (match m__law_cup (callD tbl k) [some (.d (.list (ns.map .int))), none] st with
    | .ok (f, _) st' => finish true st.length f st'
    | .err x st' => .err x (st'.take st.length)
    | .no => .no) = _
  rw [hb]
  rfl
end
end Law

set_option Elab.async false
set_option linter.all false
set_option maxRecDepth 100000
set_option maxHeartbeats 1000000
namespace Law
open PySem Ev
theorem alike_bits : ∀ r s : List Bool, r.length = s.length → W.alikeAll (r.map bitD) (s.map bitD) = true
  | [], [], _ => by simp [W.alikeAll]
  | [], c :: s, h => by cases h
  | b :: r, [], h => by cases h
  | b :: r, c :: s, h => by
    have := alike_bits r s (by simpa using h)
    simp [W.alikeAll, bitD, W.alike, this]
theorem minD_mem : ∀ (xs : List PyData) (x : PyData), W.minD x xs ∈ x :: xs := by
  intro xs
  induction xs with
  | nil => intro x; simp [W.minD]
  | cons y ys ih =>
    intro x
    show W.minD (if W.dataLt y x then y else x) ys ∈ _
    have h := ih (if W.dataLt y x then y else x)
    rcases List.mem_cons.mp h with e | e
    · rw [e]
      by_cases hc : W.dataLt y x = true
      · rw [if_pos hc]; simp
      · rw [if_neg hc]; simp
    · simp [e]
theorem min_rows {l : List (List Bool)} {n : Nat} (hl : l ≠ []) (hn : ∀ r ∈ l, r.length = n) : ∃ s ∈ l, minB [.list (l.map rowD)] = some (rowD s) := by
  obtain ⟨r, l', rfl⟩ := List.exists_cons_of_ne_nil hl
  have hm := minD_mem (l'.map rowD) (rowD r)
  rw [← List.map_cons] at hm
  obtain ⟨s, hs, he⟩ := List.mem_map.mp hm
  refine ⟨s, hs, ?_⟩
  show (if allAlike ((r :: l').map rowD) && shallow (.list ((r :: l').map rowD)) && !isNone (rowD r) then some (W.minD (rowD r) (l'.map rowD)) else none) = _
  have ha : allAlike ((r :: l').map rowD) = true := by
    unfold allAlike
    rw [List.all_eq_true]
    intro a ha
    rw [List.all_eq_true]
    intro b hb
    obtain ⟨p, hp, rfl⟩ := List.mem_map.mp ha
    obtain ⟨q, hq, rfl⟩ := List.mem_map.mp hb
    show W.alikeAll (p.map bitD) (q.map bitD) = true
    exact alike_bits p q (by rw [hn p hp, hn q hq])
  have hd : shallow (.list ((r :: l').map rowD)) = true := by
    have := depth_rows (r :: l')
    have h2 : PyData.depth (.list ((r :: l').map rowD)) = PyData.depthAll ((r :: l').map rowD) + 1 := by simp [PyData.depth, Nat.add_comm]
    unfold shallow
    rw [h2, decide_eq_true (by omega)]
  rw [ha, hd, he]
  rfl
theorem index_row {l : List (List Bool)} {s : List Bool} (hs : s ∈ l) : ∃ j : Nat, j < l.length ∧ indexM .list [.list (l.map rowD), rowD s] = some (.int (j : Nat)) := by
  have hp : ∃ j, j < l.length ∧ Ev.placeOf (rowD s) (l.map rowD) = some j := by
    cases he : Ev.placeOf (rowD s) (l.map rowD) with
    | none =>
      unfold Ev.placeOf at he
      rw [List.findIdx?_eq_none_iff] at he
      have := he (rowD s) (List.mem_map.mpr ⟨s, hs, rfl⟩)
      rw [eqv_row, beq_self_eq_true] at this
      cases this
    | some j =>
      refine ⟨j, ?_, rfl⟩
      unfold Ev.placeOf at he
      rw [List.findIdx?_eq_some_iff_getElem] at he
      obtain ⟨h, _⟩ := he
      rwa [List.length_map] at h
  obtain ⟨j, hj, he⟩ := hp
  refine ⟨j, hj, ?_⟩
  show (if shallow (rowD s) && !isDict (rowD s) then (Ev.placeOf (rowD s) (l.map rowD)).map fun (j : Nat) => PyData.int (j : Int) else none) = _
  rw [he, if_pos (by simp [shallow, depth_row, isDict, rowD, PyData.depth, depth_bits])]
  rfl
end Law

set_option Elab.async false
set_option linter.all false
set_option maxRecDepth 100000
set_option maxHeartbeats 1000000
namespace Law
open PySem Ev
local macro_rules | `(tactic| array_get_dec) => `(tactic| (first
  | with_reducible refine wp_assoc ?_
  | with_reducible refine wp_skip ?_
  | with_reducible refine wp_set ?_
  | with_reducible refine wp_if ?_
  | with_reducible refine wp_ret ?_
  | with_reducible refine wp_drop ?_
  | with_reducible refine wp_asg ?_
  | with_reducible refine wp_par ?_
  | with_reducible refine wp_put ?_
  | with_reducible refine wp_brk ?_
  | with_reducible refine wp_cont ?_
  | with_reducible refine wp_next ?_
  | with_reducible refine wp_for ?_
  | with_reducible refine wp_while ?_
  | with_reducible refine fnk_d ?_
  | with_reducible refine fnk_d1 ?_
  | with_reducible refine fnk_dc ?_
  | with_reducible refine fnk_nx ?_
  | with_reducible refine fnk_nx1 ?_
  | with_reducible refine fnk_b ?_
  | with_reducible refine turnk_nx ?_
  | with_reducible refine turnk_cont ?_
  | with_reducible refine turnk_brk ?_
  | with_reducible refine turnk_ret ?_
  | with_reducible refine loopk_nx ?_
  | with_reducible refine loopk_ret ?_
  | ((with_reducible refine wp_var1 ?_); refine ⟨_, rfl, ?_⟩)
  | with_reducible refine wp_d ?_
  | with_reducible refine wp_fnv ?_
  | with_reducible refine wp_deref ?_
  | with_reducible refine wp_toD ?_
  | with_reducible refine wp_argW ?_
  | with_reducible refine wp_argF ?_
  | with_reducible refine wp_evD0 ?_
  | with_reducible refine wp_evD ?_
  | with_reducible refine wp_evA0 ?_
  | with_reducible refine wp_evA ?_
  | with_reducible refine wp_evR0 ?_
  | with_reducible refine wp_evR ?_
  | with_reducible refine wp_drs0 ?_
  | with_reducible refine wp_drs ?_
  | with_reducible refine wp_tup ?_
  | with_reducible refine wp_nlist ?_
  | with_reducible refine wp_new ?_
  | with_reducible refine wp_box ?_
  | with_reducible refine wp_bin ?_
  | with_reducible refine wp_item ?_
  | with_reducible refine wp_cmp ?_
  | with_reducible refine wp_chain ?_
  | with_reducible refine wp_e1 ?_
  | with_reducible refine wp_sl00 ?_
  | with_reducible refine wp_sl10 ?_
  | with_reducible refine wp_sl01 ?_
  | with_reducible refine wp_sl11 ?_
  | with_reducible refine wp_tOf ?_
  | with_reducible refine wp_tNot ?_
  | with_reducible refine wp_tAnd ?_
  | with_reducible refine wp_tOr ?_
  | with_reducible refine wp_eAnd ?_
  | with_reducible refine wp_eOr ?_
  | with_reducible refine wp_eNot ?_
  | with_reducible refine wp_eIf ?_
  | with_reducible refine wp_call ?_
  | ((with_reducible refine wp_callV1 ?_); refine ⟨_, rfl, ?_⟩)
  | with_reducible refine wp_bi ?_
  | with_reducible refine wp_nbi ?_
  | with_reducible refine wp_meth ?_
  | with_reducible refine wp_mut ?_
  | with_reducible refine wp_iof ?_
  | with_reducible refine wp_range1 ?_
  | with_reducible refine wp_range2 ?_
  | with_reducible refine wp_zip2 ?_
  | with_reducible refine wp_enum ?_
  | with_reducible refine wp_iby ?_
  | with_reducible refine wp_ncomp ?_
  | with_reducible refine wp_elt ?_
  | ((with_reducible refine wp_src1 ?_); refine ⟨_, (by first | with_reducible assumption | exact rfl), ?_⟩)
  | ((with_reducible refine wp_derefB1 ?_); refine ⟨_, ⟨_, (by first | with_reducible exact at0 | with_reducible exact at1 | with_reducible assumption | exact rfl)⟩, ?_⟩)
  | with_reducible refine lit_t ?_
  | with_reducible refine lit_f ?_
  | with_reducible refine lit2_t ?_
  | with_reducible refine litn_t ?_
  | with_reducible refine litn_f ?_
  | with_reducible refine litn2_t ?_
  | with_reducible refine litn2_f ?_
  | with_reducible refine lit2_f ?_
  | ((with_reducible refine ex_cell1 ?_); refine ⟨_, (by first | with_reducible assumption | exact rfl), ?_⟩)
  | with_reducible refine ex_int ?_
  | with_reducible refine ex_bool ?_
  | with_reducible refine ex_dat ?_
  | with_reducible refine ex_bx ?_
  | with_reducible refine ex_lst ?_
  | with_reducible refine ex1 ?_
  | ((with_reducible refine ex_mul ?_ ?_); (try (first | exact mulOk_r (by omega) (by omega) | exact mulOk_l (by omega) (by omega))))
  | ((with_reducible refine ex_mod ?_ ?_); (try omega))
  | ((with_reducible refine ex_div ?_ ?_); (try omega))
  | ((with_reducible refine ex_cat_l ?_ ?_); (try (simp [sizeLine] <;> omega)))
  | ((with_reducible refine ex_cat_t ?_ ?_); (try (simp [sizeLine] <;> omega)))
  | ((with_reducible refine ex_cat_l0 ?_ ?_); (try (simp [sizeLine] <;> omega)))
  | ((with_reducible refine ex_cat_t0 ?_ ?_); (try (simp [sizeLine] <;> omega)))
  | ((with_reducible refine ex_cat_b ?_ ?_); (try (simp [sizeLine] <;> omega)))
  | ((with_reducible refine ex_cat_s ?_ ?_); (try (simp [sizeLine] <;> omega)))
  | ((with_reducible refine ex_app ?_ ?_); (try (simp [sizeLine] <;> omega)))
  | ((with_reducible refine ex_some1 ?_); refine ⟨_, (by first
    | with_reducible exact it_t_0
    | with_reducible exact it_t_1
    | with_reducible exact it_t_2
    | with_reducible exact it_l_0
    | with_reducible exact it_l_1
    | with_reducible exact it_l_2
    | with_reducible exact it_l (by assumption)
    | with_reducible exact it_t (by assumption)
    | with_reducible exact sl_l_lo
    | with_reducible exact sl_l_hi
    | with_reducible exact sl_t_lo
    | with_reducible exact sl_t_hi
    | with_reducible exact sl_l_mid
    | with_reducible exact sl_t_mid
    | with_reducible exact eq_int
    | with_reducible exact ne_int
    | with_reducible exact pow1012
    | with_reducible exact pow1018
    | with_reducible assumption), ?_⟩)
  | ((fail_if_success (with_reducible refine is_item ?_)); (fail_if_success (with_reducible refine is_min ?_)); (fail_if_success (with_reducible refine is_max ?_)); (fail_if_success (with_reducible refine is_join ?_)); (fail_if_success (with_reducible refine is_index ?_)); (with_reducible refine ex_some1 ?_); refine ⟨_, rfl, ?_⟩)
  | with_reducible exact ⟨rfl, rfl⟩
))
section
variable (k : Nat) (st : Store) {E : Exn → Store → Prop}
theorem run_from_least {l : List (List Bool)} {s : List Bool} {j : Nat} (hm : minB [.list (l.map rowD)] = some (rowD s)) (hi : indexM .list [.list (l.map rowD), rowD s] = some (.int j)) (hl : l.length ≤ 1000) : callD tbl (k + 1) i_from_least [.d (.list (l.map rowD))] st = .ok (.d (.tuple ((l.drop j ++ l.take j).map rowD))) st := by
  rw [c_from_least]
  refine wp_ok (wp_fn rfl rfl ?_)
  repeat array_get_dec
  all_goals exact ⟨rfl, rfl⟩
theorem run_round_from {F : List (List Bool)} (hF : Net F) {r : List Bool} (hr : r.length = F.length) {m t : Nat} (hw : Walk F r m t) {s : List Bool} {j : Nat} (hm : minB [.list (((orbs F r m).drop t).map rowD)] = some (rowD s)) (hi : indexM .list [.list (((orbs F r m).drop t).map rowD), rowD s] = some (.int j)) :
    callD tbl (k + 6) i_round_from [.d (netD F), .d (rowD r)] st = .ok (.d (.tuple ((((orbs F r m).drop t).drop j ++ ((orbs F r m).drop t).take j).map rowD))) st := by
  rw [c_round_from]
  refine wp_ok (wp_fn rfl rfl ?_)
  repeat array_get_dec
  refine wp_is (run_need_row_of _ _ hF hr) ?_
  repeat array_get_dec
  refine wp_is (run_steps_from _ _ hF hr hw) ?_
  repeat array_get_dec
  refine wp_is (run_from_least _ _ hm hi ?_) ?_
  · have := hw.le
    simp [orbs_len]; omega
  repeat array_get_dec
  all_goals exact ⟨rfl, rfl⟩
def cupC (a b : Int) : Cell := ⟨.list [.int a, .int b], .live⟩
theorem w_roll {a b many : Int} {rest : Store} (hm : 0 < many) (hm2 : many.natAbs < 2 ^ 200) {Q : W → Store → Prop} (h : ∀ (v : Nat) (a' b' : Int), (v : Int) < many → Q (.d (.int v)) (cupC a' b' :: rest)) : Wp (callD tbl (k + 1) i__law_roll [.bx 0, .d (.int many)] (cupC a b :: rest)) Q E := by
  obtain ⟨v, a', b', h1, h2, h3⟩ := run__law_roll k (cupC a b :: rest) (n := 0) (a := a) (b := b) rfl hm hm2
  obtain ⟨n, rfl⟩ : ∃ n : Nat, v = n := ⟨v.toNat, by omega⟩
  exact wp_is h3 (h n a' b' h2)
theorem str_bit (b : Bool) : strB [bitD b] = some (fnD [b]) := by cases b <;> kernel_rfl
theorem cat_fn (f : List Bool) (b : Bool) (h : f.length < 64) : binD .Add (fnD f) (fnD [b]) = some (fnD (f ++ [b])) := by
  refine (cat_s ?_).trans ?_
  · rw [fnS_len, fnS_len]; simp [sizeLine]; omega
  · congr 2
    unfold fnS
    rw [List.map_append]
    show (⟨_ ++ _⟩ : Str) = _
    simp
end
end Law

set_option Elab.async false
set_option linter.all false
set_option maxRecDepth 100000
set_option maxHeartbeats 1000000
namespace Law
open PySem Ev
local macro_rules | `(tactic| array_get_dec) => `(tactic| (first
  | with_reducible refine wp_assoc ?_
  | with_reducible refine wp_skip ?_
  | with_reducible refine wp_set ?_
  | with_reducible refine wp_if ?_
  | with_reducible refine wp_ret ?_
  | with_reducible refine wp_drop ?_
  | with_reducible refine wp_asg ?_
  | with_reducible refine wp_par ?_
  | with_reducible refine wp_put ?_
  | with_reducible refine wp_brk ?_
  | with_reducible refine wp_cont ?_
  | with_reducible refine wp_next ?_
  | with_reducible refine wp_for ?_
  | with_reducible refine wp_while ?_
  | with_reducible refine fnk_d ?_
  | with_reducible refine fnk_d1 ?_
  | with_reducible refine fnk_dc ?_
  | with_reducible refine fnk_nx ?_
  | with_reducible refine fnk_nx1 ?_
  | with_reducible refine fnk_b ?_
  | with_reducible refine turnk_nx ?_
  | with_reducible refine turnk_cont ?_
  | with_reducible refine turnk_brk ?_
  | with_reducible refine turnk_ret ?_
  | with_reducible refine loopk_nx ?_
  | with_reducible refine loopk_ret ?_
  | ((with_reducible refine wp_var1 ?_); refine ⟨_, rfl, ?_⟩)
  | with_reducible refine wp_d ?_
  | with_reducible refine wp_fnv ?_
  | with_reducible refine wp_deref ?_
  | with_reducible refine wp_toD ?_
  | with_reducible refine wp_argW ?_
  | with_reducible refine wp_argF ?_
  | with_reducible refine wp_evD0 ?_
  | with_reducible refine wp_evD ?_
  | with_reducible refine wp_evA0 ?_
  | with_reducible refine wp_evA ?_
  | with_reducible refine wp_evR0 ?_
  | with_reducible refine wp_evR ?_
  | with_reducible refine wp_drs0 ?_
  | with_reducible refine wp_drs ?_
  | with_reducible refine wp_tup ?_
  | with_reducible refine wp_nlist ?_
  | with_reducible refine wp_new ?_
  | with_reducible refine wp_box ?_
  | with_reducible refine wp_bin ?_
  | with_reducible refine wp_item ?_
  | with_reducible refine wp_cmp ?_
  | with_reducible refine wp_chain ?_
  | with_reducible refine wp_e1 ?_
  | with_reducible refine wp_sl00 ?_
  | with_reducible refine wp_sl10 ?_
  | with_reducible refine wp_sl01 ?_
  | with_reducible refine wp_sl11 ?_
  | with_reducible refine wp_tOf ?_
  | with_reducible refine wp_tNot ?_
  | with_reducible refine wp_tAnd ?_
  | with_reducible refine wp_tOr ?_
  | with_reducible refine wp_eAnd ?_
  | with_reducible refine wp_eOr ?_
  | with_reducible refine wp_eNot ?_
  | with_reducible refine wp_eIf ?_
  | with_reducible refine wp_call ?_
  | ((with_reducible refine wp_callV1 ?_); refine ⟨_, rfl, ?_⟩)
  | with_reducible refine wp_bi ?_
  | with_reducible refine wp_nbi ?_
  | with_reducible refine wp_meth ?_
  | with_reducible refine wp_mut ?_
  | with_reducible refine wp_iof ?_
  | with_reducible refine wp_range1 ?_
  | with_reducible refine wp_range2 ?_
  | with_reducible refine wp_zip2 ?_
  | with_reducible refine wp_enum ?_
  | with_reducible refine wp_iby ?_
  | with_reducible refine wp_ncomp ?_
  | with_reducible refine wp_elt ?_
  | ((with_reducible refine wp_src1 ?_); refine ⟨_, (by first | with_reducible assumption | exact rfl), ?_⟩)
  | ((with_reducible refine wp_derefB1 ?_); refine ⟨_, ⟨_, (by first | with_reducible exact at0 | with_reducible exact at1 | with_reducible assumption | exact rfl)⟩, ?_⟩)
  | with_reducible refine lit_t ?_
  | with_reducible refine lit_f ?_
  | with_reducible refine lit2_t ?_
  | with_reducible refine litn_t ?_
  | with_reducible refine litn_f ?_
  | with_reducible refine litn2_t ?_
  | with_reducible refine litn2_f ?_
  | with_reducible refine lit2_f ?_
  | ((with_reducible refine ex_cell1 ?_); refine ⟨_, (by first | with_reducible assumption | exact rfl), ?_⟩)
  | with_reducible refine ex_int ?_
  | with_reducible refine ex_bool ?_
  | with_reducible refine ex_dat ?_
  | with_reducible refine ex_bx ?_
  | with_reducible refine ex_lst ?_
  | with_reducible refine ex1 ?_
  | ((with_reducible refine ex_mul ?_ ?_); (try (first | exact mulOk_r (by omega) (by omega) | exact mulOk_l (by omega) (by omega))))
  | ((with_reducible refine ex_mod ?_ ?_); (try omega))
  | ((with_reducible refine ex_div ?_ ?_); (try omega))
  | ((with_reducible refine ex_cat_l ?_ ?_); (try (simp [sizeLine] <;> omega)))
  | ((with_reducible refine ex_cat_t ?_ ?_); (try (simp [sizeLine] <;> omega)))
  | ((with_reducible refine ex_cat_l0 ?_ ?_); (try (simp [sizeLine] <;> omega)))
  | ((with_reducible refine ex_cat_t0 ?_ ?_); (try (simp [sizeLine] <;> omega)))
  | ((with_reducible refine ex_cat_b ?_ ?_); (try (simp [sizeLine] <;> omega)))
  | ((with_reducible refine ex_cat_s ?_ ?_); (try (simp [sizeLine] <;> omega)))
  | ((with_reducible refine ex_app ?_ ?_); (try (simp [sizeLine] <;> omega)))
  | ((with_reducible refine ex_some1 ?_); refine ⟨_, (by first
    | with_reducible exact it_t_0
    | with_reducible exact it_t_1
    | with_reducible exact it_t_2
    | with_reducible exact it_l_0
    | with_reducible exact it_l_1
    | with_reducible exact it_l_2
    | with_reducible exact it_l (by assumption)
    | with_reducible exact it_t (by assumption)
    | with_reducible exact sl_l_lo
    | with_reducible exact sl_l_hi
    | with_reducible exact sl_t_lo
    | with_reducible exact sl_t_hi
    | with_reducible exact sl_l_mid
    | with_reducible exact sl_t_mid
    | with_reducible exact eq_int
    | with_reducible exact ne_int
    | with_reducible exact pow1012
    | with_reducible exact pow1018
    | with_reducible assumption), ?_⟩)
  | ((fail_if_success (with_reducible refine is_item ?_)); (fail_if_success (with_reducible refine is_min ?_)); (fail_if_success (with_reducible refine is_max ?_)); (fail_if_success (with_reducible refine is_join ?_)); (fail_if_success (with_reducible refine is_index ?_)); (with_reducible refine ex_some1 ?_); refine ⟨_, rfl, ?_⟩)
  | with_reducible exact ⟨rfl, rfl⟩
))
section
variable (k : Nat) (st : Store) {E : Exn → Store → Prop}
theorem bit_of {v : Nat} (h : v < 2) : PyData.int (v : Int) = bitD (v == 1) := by
  have : v = 0 ∨ v = 1 := by omega
  rcases this with rfl | rfl <;> rfl
theorem max_bits (b c : Bool) : maxB [bitD b, bitD c] = some (bitD (b || c)) := by cases b <;> cases c <;> kernel_rfl
theorem ite_both {cl : Calls} {ρ : Ev.Env} {c : Bool} {x y : PyData} {s : Store} {Q : W → Store → Prop} (h : Q (.d (if c then x else y)) s) : (c = true → Wp (eD x cl ρ s) Q E) ∧ (c = false → Wp (eD y cl ρ s) Q E) :=
  ⟨fun e => by subst e; exact h, fun e => by subst e; exact h⟩
theorem net_in (n : Nat) (hn : n ≤ 5) (way one other turned : Nat) (hway : way < 4) (hone : one < n) (hother : other < n) (c0 c1 c2 c3 c4 c6 : Option W) (rest : Store) (hc0 : c0 = some (.bx 0)) {Q : Fl × Ev.Env → Store → Prop}
    (hq : ∀ (f : List Bool) (a b : Int) (o8 o12 : Option W), f.length = 2 ^ n → Q (.nx, [c0, c1, c2, c3, c4, some (.d (.int (way : Nat))), c6, some (.d (fnD f)), o8, some (.d (.int (one : Nat))), some (.d (.int (other : Nat))), some (.d (.int (turned : Nat))), o12]) (cupC a b :: rest))
    (a b : Int) (o8 o12 : Option W) :
    Wp (forLoop (asgD (.name 8)) ((sSeq (sSet 12 (eNew (nList [(eCall i__law_roll [(eVar 0), (eD (.int 2))]), (eIf (tOf (eCmp .Eq (eCall i__law_roll [(eVar 0), (eD (.int 4))]) (eD (.int 0)))) (eD (.int 1)) (eD (.int 0))), (eBin .Mod (eBi [(eBin .Add (eBin .Add (eItem (eVar 8) (eVar 9)) (eItem (eVar 8) (eVar 10))) (eVar 11))] intB) (eD (.int 2))), (eBi [(eItem (eVar 8) (eVar 9)), (eItem (eVar 8) (eVar 10))] maxB)]))) (sSeq (sSet 7 (eBin .Add (eVar 7) (eBi [(eItem (eVar 12) (eVar 5))] strB))) sNext)) (callD tbl (k + 1)))
      ((rowsF n).map rowD) [c0, c1, c2, c3, c4, some (.d (.int (way : Nat))), c6, some (.d (fnD [])), o8, some (.d (.int (one : Nat))), some (.d (.int (other : Nat))), some (.d (.int (turned : Nat))), o12] (cupC a b :: rest)) Q E := by
  subst hc0
  refine for_inv (fun l ρ s => (∀ r ∈ l, r.length = n) ∧ ∃ (f : List Bool) (a b : Int) (o8 o12 : Option W), f.length + l.length = 2 ^ n ∧ ρ = [some (.bx 0), c1, c2, c3, c4, some (.d (.int (way : Nat))), c6, some (.d (fnD f)), o8, some (.d (.int (one : Nat))), some (.d (.int (other : Nat))), some (.d (.int (turned : Nat))), o12] ∧ s = cupC a b :: rest) ?_ ?_ ?_
  · exact ⟨rowsF_len n, [], a, b, o8, o12, by rw [rowsF_size]; simp, rfl, rfl⟩
  · rintro r l ρ s ⟨hl, f, a, b, o8, o12, hf, rfl, rfl⟩
    have hr : r.length = n := hl r List.mem_cons_self
    obtain ⟨x, hx⟩ : ∃ x, r[one]? = some x := ⟨_, List.getElem?_eq_getElem (by omega)⟩
    obtain ⟨y, hy⟩ : ∃ x, r[other]? = some x := ⟨_, List.getElem?_eq_getElem (by omega)⟩
    have h2n : 2 ^ n ≤ 32 := Nat.le_trans (Nat.pow_le_pow_right (by decide) hn) (by decide)
    refine ⟨_, rfl, ?_⟩
    repeat array_get_dec
    refine wp_argB rfl ?_
    repeat array_get_dec
    refine w_roll _ (by decide) (by decide) fun v a b hv => ?_
    repeat array_get_dec
    refine wp_argB rfl ?_
    repeat array_get_dec
    refine w_roll _ (by decide) (by decide) fun u a b hu => ?_
    repeat array_get_dec
    refine ite_both ?_
    repeat array_get_dec
    have hb : ∃ bb, ([.int (v : Int), if decide ((u : Int) = 0) = true then .int 1 else .int 0, .int (((bitN x : Nat) + (bitN y : Nat) + (turned : Int)) % 2), .int (if ((bitN y : Nat) : Int) > (bitN x : Nat) then ((bitN y : Nat) : Int) else (bitN x : Nat))] : List PyData)[way]? = some (bitD bb) := by
      have : way = 0 ∨ way = 1 ∨ way = 2 ∨ way = 3 := by omega
      rcases this with rfl | rfl | rfl | rfl
      · exact ⟨v == 1, by rw [← bit_of (by omega)]; rfl⟩
      · exact ⟨decide ((u : Int) = 0), by cases decide ((u : Int) = 0) <;> rfl⟩
      · refine ⟨((bitN x + bitN y + turned) % 2 == 1), ?_⟩
        rw [← bit_of (Nat.mod_lt _ (by decide))]
        simp
      · exact ⟨x || y, by cases x <;> cases y <;> rfl⟩
    obtain ⟨bb, hb⟩ := hb
    refine ⟨_, it_t0 hb, ?_⟩
    repeat array_get_dec
    refine ⟨_, str_bit bb, ?_⟩
    repeat array_get_dec
    rw [List.length_cons] at hf
    refine ⟨_, cat_fn f bb (by omega), ?_⟩
    repeat array_get_dec
    exact ⟨fun z hz => hl z (List.mem_cons_of_mem _ hz), f ++ [bb], a, b, _, _, by simp; omega, rfl, rfl⟩
  · rintro ρ s ⟨_, f, a, b, o8, o12, hf, rfl, rfl⟩
    exact hq f a b o8 o12 (by simpa using hf)
end
end Law

set_option Elab.async false
set_option linter.all false
set_option maxRecDepth 100000
set_option maxHeartbeats 1000000
namespace Law
open PySem Ev
local macro_rules | `(tactic| array_get_dec) => `(tactic| (first
  | with_reducible refine wp_assoc ?_
  | with_reducible refine wp_skip ?_
  | with_reducible refine wp_set ?_
  | with_reducible refine wp_if ?_
  | with_reducible refine wp_ret ?_
  | with_reducible refine wp_drop ?_
  | with_reducible refine wp_asg ?_
  | with_reducible refine wp_par ?_
  | with_reducible refine wp_put ?_
  | with_reducible refine wp_brk ?_
  | with_reducible refine wp_cont ?_
  | with_reducible refine wp_next ?_
  | with_reducible refine wp_for ?_
  | with_reducible refine wp_while ?_
  | with_reducible refine fnk_d ?_
  | with_reducible refine fnk_d1 ?_
  | with_reducible refine fnk_dc ?_
  | with_reducible refine fnk_nx ?_
  | with_reducible refine fnk_nx1 ?_
  | with_reducible refine fnk_b ?_
  | with_reducible refine turnk_nx ?_
  | with_reducible refine turnk_cont ?_
  | with_reducible refine turnk_brk ?_
  | with_reducible refine turnk_ret ?_
  | with_reducible refine loopk_nx ?_
  | with_reducible refine loopk_ret ?_
  | ((with_reducible refine wp_var1 ?_); refine ⟨_, rfl, ?_⟩)
  | with_reducible refine wp_d ?_
  | with_reducible refine wp_fnv ?_
  | with_reducible refine wp_deref ?_
  | with_reducible refine wp_toD ?_
  | with_reducible refine wp_argW ?_
  | with_reducible refine wp_argF ?_
  | with_reducible refine wp_evD0 ?_
  | with_reducible refine wp_evD ?_
  | with_reducible refine wp_evA0 ?_
  | with_reducible refine wp_evA ?_
  | with_reducible refine wp_evR0 ?_
  | with_reducible refine wp_evR ?_
  | with_reducible refine wp_drs0 ?_
  | with_reducible refine wp_drs ?_
  | with_reducible refine wp_tup ?_
  | with_reducible refine wp_nlist ?_
  | with_reducible refine wp_new ?_
  | with_reducible refine wp_box ?_
  | with_reducible refine wp_bin ?_
  | with_reducible refine wp_item ?_
  | with_reducible refine wp_cmp ?_
  | with_reducible refine wp_chain ?_
  | with_reducible refine wp_e1 ?_
  | with_reducible refine wp_sl00 ?_
  | with_reducible refine wp_sl10 ?_
  | with_reducible refine wp_sl01 ?_
  | with_reducible refine wp_sl11 ?_
  | with_reducible refine wp_tOf ?_
  | with_reducible refine wp_tNot ?_
  | with_reducible refine wp_tAnd ?_
  | with_reducible refine wp_tOr ?_
  | with_reducible refine wp_eAnd ?_
  | with_reducible refine wp_eOr ?_
  | with_reducible refine wp_eNot ?_
  | with_reducible refine wp_eIf ?_
  | with_reducible refine wp_call ?_
  | ((with_reducible refine wp_callV1 ?_); refine ⟨_, rfl, ?_⟩)
  | with_reducible refine wp_bi ?_
  | with_reducible refine wp_nbi ?_
  | with_reducible refine wp_meth ?_
  | with_reducible refine wp_mut ?_
  | with_reducible refine wp_iof ?_
  | with_reducible refine wp_range1 ?_
  | with_reducible refine wp_range2 ?_
  | with_reducible refine wp_zip2 ?_
  | with_reducible refine wp_enum ?_
  | with_reducible refine wp_iby ?_
  | with_reducible refine wp_ncomp ?_
  | with_reducible refine wp_elt ?_
  | ((with_reducible refine wp_src1 ?_); refine ⟨_, (by first | with_reducible assumption | exact rfl), ?_⟩)
  | ((with_reducible refine wp_derefB1 ?_); refine ⟨_, ⟨_, (by first | with_reducible exact at0 | with_reducible exact at1 | with_reducible assumption | exact rfl)⟩, ?_⟩)
  | with_reducible refine lit_t ?_
  | with_reducible refine lit_f ?_
  | with_reducible refine lit2_t ?_
  | with_reducible refine litn_t ?_
  | with_reducible refine litn_f ?_
  | with_reducible refine litn2_t ?_
  | with_reducible refine litn2_f ?_
  | with_reducible refine lit2_f ?_
  | ((with_reducible refine ex_cell1 ?_); refine ⟨_, (by first | with_reducible assumption | exact rfl), ?_⟩)
  | with_reducible refine ex_int ?_
  | with_reducible refine ex_bool ?_
  | with_reducible refine ex_dat ?_
  | with_reducible refine ex_bx ?_
  | with_reducible refine ex_lst ?_
  | with_reducible refine ex1 ?_
  | ((with_reducible refine ex_mul ?_ ?_); (try (first | exact mulOk_r (by omega) (by omega) | exact mulOk_l (by omega) (by omega))))
  | ((with_reducible refine ex_mod ?_ ?_); (try omega))
  | ((with_reducible refine ex_div ?_ ?_); (try omega))
  | ((with_reducible refine ex_cat_l ?_ ?_); (try (simp [sizeLine] <;> omega)))
  | ((with_reducible refine ex_cat_t ?_ ?_); (try (simp [sizeLine] <;> omega)))
  | ((with_reducible refine ex_cat_l0 ?_ ?_); (try (simp [sizeLine] <;> omega)))
  | ((with_reducible refine ex_cat_t0 ?_ ?_); (try (simp [sizeLine] <;> omega)))
  | ((with_reducible refine ex_cat_b ?_ ?_); (try (simp [sizeLine] <;> omega)))
  | ((with_reducible refine ex_cat_s ?_ ?_); (try (simp [sizeLine] <;> omega)))
  | ((with_reducible refine ex_app ?_ ?_); (try (simp [sizeLine] <;> omega)))
  | ((with_reducible refine ex_some1 ?_); refine ⟨_, (by first
    | with_reducible exact it_t_0
    | with_reducible exact it_t_1
    | with_reducible exact it_t_2
    | with_reducible exact it_l_0
    | with_reducible exact it_l_1
    | with_reducible exact it_l_2
    | with_reducible exact it_l (by assumption)
    | with_reducible exact it_t (by assumption)
    | with_reducible exact sl_l_lo
    | with_reducible exact sl_l_hi
    | with_reducible exact sl_t_lo
    | with_reducible exact sl_t_hi
    | with_reducible exact sl_l_mid
    | with_reducible exact sl_t_mid
    | with_reducible exact eq_int
    | with_reducible exact ne_int
    | with_reducible exact pow1012
    | with_reducible exact pow1018
    | with_reducible assumption), ?_⟩)
  | ((fail_if_success (with_reducible refine is_item ?_)); (fail_if_success (with_reducible refine is_min ?_)); (fail_if_success (with_reducible refine is_max ?_)); (fail_if_success (with_reducible refine is_join ?_)); (fail_if_success (with_reducible refine is_index ?_)); (with_reducible refine ex_some1 ?_); refine ⟨_, rfl, ?_⟩)
  | with_reducible exact ⟨rfl, rfl⟩
))
section
variable (k : Nat) (st : Store) {E : Exn → Store → Prop}
theorem ints_from (i : Int) (n : Nat) : intsFrom i n = (List.range n).map fun j => PyData.int (i + (j : Nat)) := rfl
theorem w__law_net {a b : Int} {rest : Store} {most : Nat} (hm : most ≤ 5) {Q : W → Store → Prop} (h : ∀ (F : List (List Bool)) (a' b' : Int), Net F → F.length ≤ most → Q (.d (netD F)) (cupC a' b' :: rest)) :
    Wp (callD tbl (k + 2) i__law_net [.bx 0, .d (.int (most : Nat))] (cupC a b :: rest)) Q E := by
  rw [c__law_net]
  refine wp_fn rfl rfl ?_
  repeat array_get_dec
  refine wp_argB rfl ?_
  repeat array_get_dec
  refine w_roll _ (by omega) (by omega) fun n a1 b1 hn => ?_
  repeat array_get_dec
  refine wp_argB rfl ?_
  repeat array_get_dec
  refine w_roll _ (by decide) (by decide) fun way a2 b2 hw => ?_
  repeat array_get_dec
  have hn5 : n ≤ 5 := by omega
  refine wp_is (run__law_rows _ _ n hn5) ?_
  repeat array_get_dec
  refine ⟨by omega, ?_⟩
  refine for_inv (fun l ρ s => ∃ (F : List (List Bool)) (a b : Int) (o3 o7 o8 o9 o10 o11 o12 : Option W), F.length + l.length = n ∧ (∀ f ∈ F, f.length = 2 ^ n) ∧
    ρ = [some (.bx 0), some (.d (.int (most : Nat))), some (.d (.list ((rowsF n).map rowD))), o3, some (.d (.int (n : Nat))), some (.d (.int (way : Nat))), some (.bx (rest.length + 1)), o7, o8, o9, o10, o11, o12] ∧ s = cupC a b :: (rest ++ [⟨.list (F.map fnD), .live⟩])) ?_ ?_ ?_
  · exact ⟨[], a2, b2, none, none, none, none, none, none, none, by simp, by simp, rfl, rfl⟩
  · rintro i l ρ s ⟨F, a, b, o3, o7, o8, o9, o10, o11, o12, hF, hF2, rfl, rfl⟩
    rw [List.length_cons] at hF
    refine ⟨_, rfl, ?_⟩
    repeat array_get_dec
    refine wp_argB rfl ?_
    repeat array_get_dec
    refine w_roll _ (by omega) (by omega) fun one a b h1 => ?_
    repeat array_get_dec
    refine wp_argB rfl ?_
    repeat array_get_dec
    refine w_roll _ (by omega) (by omega) fun other a b h2 => ?_
    repeat array_get_dec
    refine wp_argB rfl ?_
    repeat array_get_dec
    refine w_roll _ (by decide) (by decide) fun turned a b h3 => ?_
    repeat array_get_dec
    refine net_in k n hn5 way one other turned (by omega) (by omega) (by omega) _ _ _ _ _ _ _ rfl ?_ a b _ _
    intro f a b o8 o12 hf
    have hg : (cupC a b :: (rest ++ [⟨.list (F.map fnD), .live⟩]))[rest.length + 1]? = some ⟨.list (F.map fnD), .live⟩ := by simp
    repeat array_get_dec
    refine ⟨F ++ [f], a, b, _, _, _, _, _, _, _, by simp; omega, ?_, rfl, ?_⟩
    · intro g hg
      rcases List.mem_append.mp hg with h | h
      · exact hF2 g h
      · rw [List.mem_singleton.mp h]; exact hf
    · simp [cupC]
  · rintro ρ s ⟨F, a, b, o3, o7, o8, o9, o10, o11, o12, hF, hF2, rfl, rfl⟩
    have hg : (cupC a b :: (rest ++ [⟨.list (F.map fnD), .live⟩]))[rest.length + 1]? = some ⟨.list (F.map fnD), .live⟩ := by simp
    repeat array_get_dec
    refine fnk_t (s := cupC a b :: rest) (by simp) (h F a b ⟨by simp at hF; omega, ?_⟩ (by simp at hF; omega))
    intro f hf
    rw [hF2 f hf]
    simp at hF
    rw [hF]
end
end Law

set_option Elab.async false
set_option linter.all false
set_option maxRecDepth 100000
set_option maxHeartbeats 1000000
namespace Law
open PySem Ev
local macro_rules | `(tactic| array_get_dec) => `(tactic| (first
  | with_reducible refine wp_assoc ?_
  | with_reducible refine wp_skip ?_
  | with_reducible refine wp_set ?_
  | with_reducible refine wp_if ?_
  | with_reducible refine wp_ret ?_
  | with_reducible refine wp_drop ?_
  | with_reducible refine wp_asg ?_
  | with_reducible refine wp_par ?_
  | with_reducible refine wp_put ?_
  | with_reducible refine wp_brk ?_
  | with_reducible refine wp_cont ?_
  | with_reducible refine wp_next ?_
  | with_reducible refine wp_for ?_
  | with_reducible refine wp_while ?_
  | with_reducible refine fnk_d ?_
  | with_reducible refine fnk_d1 ?_
  | with_reducible refine fnk_dc ?_
  | with_reducible refine fnk_nx ?_
  | with_reducible refine fnk_nx1 ?_
  | with_reducible refine fnk_b ?_
  | with_reducible refine turnk_nx ?_
  | with_reducible refine turnk_cont ?_
  | with_reducible refine turnk_brk ?_
  | with_reducible refine turnk_ret ?_
  | with_reducible refine loopk_nx ?_
  | with_reducible refine loopk_ret ?_
  | ((with_reducible refine wp_var1 ?_); refine ⟨_, rfl, ?_⟩)
  | with_reducible refine wp_d ?_
  | with_reducible refine wp_fnv ?_
  | with_reducible refine wp_deref ?_
  | with_reducible refine wp_toD ?_
  | with_reducible refine wp_argW ?_
  | with_reducible refine wp_argF ?_
  | with_reducible refine wp_evD0 ?_
  | with_reducible refine wp_evD ?_
  | with_reducible refine wp_evA0 ?_
  | with_reducible refine wp_evA ?_
  | with_reducible refine wp_evR0 ?_
  | with_reducible refine wp_evR ?_
  | with_reducible refine wp_drs0 ?_
  | with_reducible refine wp_drs ?_
  | with_reducible refine wp_tup ?_
  | with_reducible refine wp_nlist ?_
  | with_reducible refine wp_new ?_
  | with_reducible refine wp_box ?_
  | with_reducible refine wp_bin ?_
  | with_reducible refine wp_item ?_
  | with_reducible refine wp_cmp ?_
  | with_reducible refine wp_chain ?_
  | with_reducible refine wp_e1 ?_
  | with_reducible refine wp_sl00 ?_
  | with_reducible refine wp_sl10 ?_
  | with_reducible refine wp_sl01 ?_
  | with_reducible refine wp_sl11 ?_
  | with_reducible refine wp_tOf ?_
  | with_reducible refine wp_tNot ?_
  | with_reducible refine wp_tAnd ?_
  | with_reducible refine wp_tOr ?_
  | with_reducible refine wp_eAnd ?_
  | with_reducible refine wp_eOr ?_
  | with_reducible refine wp_eNot ?_
  | with_reducible refine wp_eIf ?_
  | with_reducible refine wp_call ?_
  | ((with_reducible refine wp_callV1 ?_); refine ⟨_, rfl, ?_⟩)
  | with_reducible refine wp_bi ?_
  | with_reducible refine wp_nbi ?_
  | with_reducible refine wp_meth ?_
  | with_reducible refine wp_mut ?_
  | with_reducible refine wp_iof ?_
  | with_reducible refine wp_range1 ?_
  | with_reducible refine wp_range2 ?_
  | with_reducible refine wp_zip2 ?_
  | with_reducible refine wp_enum ?_
  | with_reducible refine wp_iby ?_
  | with_reducible refine wp_ncomp ?_
  | with_reducible refine wp_elt ?_
  | ((with_reducible refine wp_src1 ?_); refine ⟨_, (by first | with_reducible assumption | exact rfl), ?_⟩)
  | ((with_reducible refine wp_derefB1 ?_); refine ⟨_, ⟨_, (by first | with_reducible exact at0 | with_reducible exact at1 | with_reducible assumption | exact rfl)⟩, ?_⟩)
  | with_reducible refine lit_t ?_
  | with_reducible refine lit_f ?_
  | with_reducible refine lit2_t ?_
  | with_reducible refine litn_t ?_
  | with_reducible refine litn_f ?_
  | with_reducible refine litn2_t ?_
  | with_reducible refine litn2_f ?_
  | with_reducible refine lit2_f ?_
  | ((with_reducible refine ex_cell1 ?_); refine ⟨_, (by first | with_reducible assumption | exact rfl), ?_⟩)
  | with_reducible refine ex_int ?_
  | with_reducible refine ex_bool ?_
  | with_reducible refine ex_dat ?_
  | with_reducible refine ex_bx ?_
  | with_reducible refine ex_lst ?_
  | with_reducible refine ex1 ?_
  | ((with_reducible refine ex_mul ?_ ?_); (try (first | exact mulOk_r (by omega) (by omega) | exact mulOk_l (by omega) (by omega))))
  | ((with_reducible refine ex_mod ?_ ?_); (try omega))
  | ((with_reducible refine ex_div ?_ ?_); (try omega))
  | ((with_reducible refine ex_cat_l ?_ ?_); (try (simp [sizeLine] <;> omega)))
  | ((with_reducible refine ex_cat_t ?_ ?_); (try (simp [sizeLine] <;> omega)))
  | ((with_reducible refine ex_cat_l0 ?_ ?_); (try (simp [sizeLine] <;> omega)))
  | ((with_reducible refine ex_cat_t0 ?_ ?_); (try (simp [sizeLine] <;> omega)))
  | ((with_reducible refine ex_cat_b ?_ ?_); (try (simp [sizeLine] <;> omega)))
  | ((with_reducible refine ex_cat_s ?_ ?_); (try (simp [sizeLine] <;> omega)))
  | ((with_reducible refine ex_app ?_ ?_); (try (simp [sizeLine] <;> omega)))
  | ((with_reducible refine ex_some1 ?_); refine ⟨_, (by first
    | with_reducible exact it_t_0
    | with_reducible exact it_t_1
    | with_reducible exact it_t_2
    | with_reducible exact it_l_0
    | with_reducible exact it_l_1
    | with_reducible exact it_l_2
    | with_reducible exact it_l (by assumption)
    | with_reducible exact it_t (by assumption)
    | with_reducible exact sl_l_lo
    | with_reducible exact sl_l_hi
    | with_reducible exact sl_t_lo
    | with_reducible exact sl_t_hi
    | with_reducible exact sl_l_mid
    | with_reducible exact sl_t_mid
    | with_reducible exact eq_int
    | with_reducible exact ne_int
    | with_reducible exact pow1012
    | with_reducible exact pow1018
    | with_reducible assumption), ?_⟩)
  | ((fail_if_success (with_reducible refine is_item ?_)); (fail_if_success (with_reducible refine is_min ?_)); (fail_if_success (with_reducible refine is_max ?_)); (fail_if_success (with_reducible refine is_join ?_)); (fail_if_success (with_reducible refine is_index ?_)); (with_reducible refine ex_some1 ?_); refine ⟨_, rfl, ?_⟩)
  | with_reducible exact ⟨rfl, rfl⟩
))
section
variable (k : Nat) (st : Store) {E : Exn → Store → Prop}
theorem w__law_some {a b : Int} {rest : Store} {xs : List PyData} (hx : xs ≠ []) (hl : xs.length < 2 ^ 60) {Q : W → Store → Prop} (h : ∀ (x : PyData) (a' b' : Int), x ∈ xs → Q (.d x) (cupC a' b' :: rest)) : Wp (callD tbl (k + 2) i__law_some [.bx 0, .d (.list xs)] (cupC a b :: rest)) Q E := by
  obtain ⟨x, a', b', h1, h2⟩ := run__law_some k (cupC a b :: rest) (n := 0) (a := a) (b := b) rfl hx hl
  exact wp_is h2 (h x a' b' h1)
theorem w_like {x y : PyData} {n j : Nat} (e : x = y) (hn : nice x = true) (hd : x.depth ≤ n) (hk : n + 2 ≤ j) {Q : W → Store → Prop} (h : Q (.d (.bool true)) st) : Wp (callD tbl j i__law_like [.d x, .d y] st) Q E := by
  subst e
  obtain ⟨k, rfl⟩ : ∃ k, j = n + k + 2 := ⟨j - n - 2, by omega⟩
  exact wp_is (like_self n x k st hn hd) h
theorem orb_add (F : List (List Bool)) (r : List Bool) (i : Nat) : ∀ j, orb F (orb F r i) j = orb F r (i + j)
  | 0 => rfl
  | j + 1 => by
    show stepR F (orb F (orb F r i) j) = stepR F (orb F r (i + j))
    rw [orb_add F r i j]
theorem nice_bits : ∀ r : List Bool, niceAll (r.map bitD) = true
  | [] => by simp [niceAll]
  | b :: r => by simp [niceAll, bitD, nice, nice_bits r]
theorem nice_row (r : List Bool) : nice (rowD r) = true := by simp [rowD, nice, nice_bits]
theorem nice_rows : ∀ l : List (List Bool), niceAll (l.map rowD) = true
  | [] => by simp [niceAll]
  | r :: l => by simp [niceAll, nice_row, nice_rows l]
theorem len_range_le (n : Nat) : True := trivial
end
end Law

set_option Elab.async false
set_option linter.all false
set_option maxRecDepth 100000
set_option maxHeartbeats 1000000
namespace Law
open PySem Ev
local macro_rules | `(tactic| array_get_dec) => `(tactic| (first
  | with_reducible refine wp_assoc ?_
  | with_reducible refine wp_skip ?_
  | with_reducible refine wp_set ?_
  | with_reducible refine wp_if ?_
  | with_reducible refine wp_ret ?_
  | with_reducible refine wp_drop ?_
  | with_reducible refine wp_asg ?_
  | with_reducible refine wp_par ?_
  | with_reducible refine wp_put ?_
  | with_reducible refine wp_brk ?_
  | with_reducible refine wp_cont ?_
  | with_reducible refine wp_next ?_
  | with_reducible refine wp_for ?_
  | with_reducible refine wp_while ?_
  | with_reducible refine fnk_d ?_
  | with_reducible refine fnk_d1 ?_
  | with_reducible refine fnk_dc ?_
  | with_reducible refine fnk_nx ?_
  | with_reducible refine fnk_nx1 ?_
  | with_reducible refine fnk_b ?_
  | with_reducible refine turnk_nx ?_
  | with_reducible refine turnk_cont ?_
  | with_reducible refine turnk_brk ?_
  | with_reducible refine turnk_ret ?_
  | with_reducible refine loopk_nx ?_
  | with_reducible refine loopk_ret ?_
  | ((with_reducible refine wp_var1 ?_); refine ⟨_, rfl, ?_⟩)
  | with_reducible refine wp_d ?_
  | with_reducible refine wp_fnv ?_
  | with_reducible refine wp_deref ?_
  | with_reducible refine wp_toD ?_
  | with_reducible refine wp_argW ?_
  | with_reducible refine wp_argF ?_
  | with_reducible refine wp_evD0 ?_
  | with_reducible refine wp_evD ?_
  | with_reducible refine wp_evA0 ?_
  | with_reducible refine wp_evA ?_
  | with_reducible refine wp_evR0 ?_
  | with_reducible refine wp_evR ?_
  | with_reducible refine wp_drs0 ?_
  | with_reducible refine wp_drs ?_
  | with_reducible refine wp_tup ?_
  | with_reducible refine wp_nlist ?_
  | with_reducible refine wp_new ?_
  | with_reducible refine wp_box ?_
  | with_reducible refine wp_bin ?_
  | with_reducible refine wp_item ?_
  | with_reducible refine wp_cmp ?_
  | with_reducible refine wp_chain ?_
  | with_reducible refine wp_e1 ?_
  | with_reducible refine wp_sl00 ?_
  | with_reducible refine wp_sl10 ?_
  | with_reducible refine wp_sl01 ?_
  | with_reducible refine wp_sl11 ?_
  | with_reducible refine wp_tOf ?_
  | with_reducible refine wp_tNot ?_
  | with_reducible refine wp_tAnd ?_
  | with_reducible refine wp_tOr ?_
  | with_reducible refine wp_eAnd ?_
  | with_reducible refine wp_eOr ?_
  | with_reducible refine wp_eNot ?_
  | with_reducible refine wp_eIf ?_
  | with_reducible refine wp_call ?_
  | ((with_reducible refine wp_callV1 ?_); refine ⟨_, rfl, ?_⟩)
  | with_reducible refine wp_bi ?_
  | with_reducible refine wp_nbi ?_
  | with_reducible refine wp_meth ?_
  | with_reducible refine wp_mut ?_
  | with_reducible refine wp_iof ?_
  | with_reducible refine wp_range1 ?_
  | with_reducible refine wp_range2 ?_
  | with_reducible refine wp_zip2 ?_
  | with_reducible refine wp_enum ?_
  | with_reducible refine wp_iby ?_
  | with_reducible refine wp_ncomp ?_
  | with_reducible refine wp_elt ?_
  | ((with_reducible refine wp_src1 ?_); refine ⟨_, (by first | with_reducible assumption | exact rfl), ?_⟩)
  | ((with_reducible refine wp_derefB1 ?_); refine ⟨_, ⟨_, (by first | with_reducible exact at0 | with_reducible exact at1 | with_reducible assumption | exact rfl)⟩, ?_⟩)
  | with_reducible refine lit_t ?_
  | with_reducible refine lit_f ?_
  | with_reducible refine lit2_t ?_
  | with_reducible refine litn_t ?_
  | with_reducible refine litn_f ?_
  | with_reducible refine litn2_t ?_
  | with_reducible refine litn2_f ?_
  | with_reducible refine lit2_f ?_
  | ((with_reducible refine ex_cell1 ?_); refine ⟨_, (by first | with_reducible assumption | exact rfl), ?_⟩)
  | with_reducible refine ex_int ?_
  | with_reducible refine ex_bool ?_
  | with_reducible refine ex_dat ?_
  | with_reducible refine ex_bx ?_
  | with_reducible refine ex_lst ?_
  | with_reducible refine ex1 ?_
  | ((with_reducible refine ex_mul ?_ ?_); (try (first | exact mulOk_r (by omega) (by omega) | exact mulOk_l (by omega) (by omega))))
  | ((with_reducible refine ex_mod ?_ ?_); (try omega))
  | ((with_reducible refine ex_div ?_ ?_); (try omega))
  | ((with_reducible refine ex_cat_l ?_ ?_); (try (simp [sizeLine] <;> omega)))
  | ((with_reducible refine ex_cat_t ?_ ?_); (try (simp [sizeLine] <;> omega)))
  | ((with_reducible refine ex_cat_l0 ?_ ?_); (try (simp [sizeLine] <;> omega)))
  | ((with_reducible refine ex_cat_t0 ?_ ?_); (try (simp [sizeLine] <;> omega)))
  | ((with_reducible refine ex_cat_b ?_ ?_); (try (simp [sizeLine] <;> omega)))
  | ((with_reducible refine ex_cat_s ?_ ?_); (try (simp [sizeLine] <;> omega)))
  | ((with_reducible refine ex_app ?_ ?_); (try (simp [sizeLine] <;> omega)))
  | ((with_reducible refine ex_some1 ?_); refine ⟨_, (by first
    | with_reducible exact it_t_0
    | with_reducible exact it_t_1
    | with_reducible exact it_t_2
    | with_reducible exact it_l_0
    | with_reducible exact it_l_1
    | with_reducible exact it_l_2
    | with_reducible exact it_l (by assumption)
    | with_reducible exact it_t (by assumption)
    | with_reducible exact sl_l_lo
    | with_reducible exact sl_l_hi
    | with_reducible exact sl_t_lo
    | with_reducible exact sl_t_hi
    | with_reducible exact sl_l_mid
    | with_reducible exact sl_t_mid
    | with_reducible exact eq_int
    | with_reducible exact ne_int
    | with_reducible exact pow1012
    | with_reducible exact pow1018
    | with_reducible assumption), ?_⟩)
  | ((fail_if_success (with_reducible refine is_item ?_)); (fail_if_success (with_reducible refine is_min ?_)); (fail_if_success (with_reducible refine is_max ?_)); (fail_if_success (with_reducible refine is_join ?_)); (fail_if_success (with_reducible refine is_index ?_)); (with_reducible refine ex_some1 ?_); refine ⟨_, rfl, ?_⟩)
  | with_reducible exact ⟨rfl, rfl⟩
))
section
variable (k : Nat) (st : Store) {E : Exn → Store → Prop}
theorem w_sort_bx {n : Nat} {xs : List PyData} (hg : st[n]? = some ⟨.list xs, .live⟩) {Q : W → Store → Prop} (h : Q (.d (.int 5)) st) : Wp (callD tbl (k + 1) i__law_sort [.bx n] st) Q E := by
  rw [c__law_sort]
  refine wp_fn rfl rfl ?_
  repeat array_get_dec
  refine lit_f ?_
  repeat array_get_dec
  refine lit_f ?_
  repeat array_get_dec
  refine lit_f ?_
  repeat array_get_dec
  refine lit_f ?_
  repeat array_get_dec
  refine lit_f ?_
  repeat array_get_dec
  refine lit_t ?_
  repeat array_get_dec
  exact h
theorem w_like_bx {m : Nat} {xs : List PyData} {y : PyData} {n j : Nat} (hg : st[m]? = some ⟨.list xs, .live⟩) (e : .list xs = y) (hn : niceAll xs = true) (hd : PyData.depthAll xs ≤ n) (hk : n + 3 ≤ j) {Q : W → Store → Prop} (h : Q (.d (.bool true)) st) : Wp (callD tbl j i__law_like [.bx m, .d y] st) Q E := by
  subst e
  obtain ⟨k, rfl⟩ : ∃ k, j = n + k + 3 := ⟨j - n - 3, by omega⟩
  rw [c__law_like]
  refine wp_fn rfl rfl ?_
  repeat array_get_dec
  refine wp_is (run__law_sort _ _ rfl) ?_
  repeat array_get_dec
  refine wp_argB hg ?_
  repeat array_get_dec
  refine w_sort_bx _ _ hg ?_
  repeat array_get_dec
  refine lit_f ?_
  repeat array_get_dec
  refine lit_f ?_
  repeat array_get_dec
  refine if_eqt (by simp [PyData.eqv, sortN]) ?_
  repeat array_get_dec
  refine if2_eqt (by simp) ?_
  repeat array_get_dec
  refine wp_srcB hg rfl ?_
  repeat array_get_dec
  refine wp_filter0 (fun _ => false) id ?_ ?_
  · intro z hz
    obtain ⟨x, hx, rfl⟩ := zip_same xs z hz
    refine ⟨_, rfl, ?_, fun e => by cases e⟩
    repeat array_get_dec
    refine wp_is (like_self n x k _ (nice_mem hn x hx) (Nat.le_trans (depth_mem hx) hd)) ?_
    repeat array_get_dec
  · rw [filter_none]
    repeat array_get_dec
    show FnK st.length Q _ (unlock [m] (st.set m ⟨.list xs, .lock⟩))
    rw [unlock_lock hg]
    repeat array_get_dec
    rw [show PyData.eqv (.list (List.map id [])) (.list []) = true from by simp [PyData.eqv, PyData.eqvAll]]
    exact h
theorem decNat {p : Nat → Prop} [DecidablePred p] (n : Nat) (h : decide (∀ i, i < n → p i) = true) : ∀ i, i < n → p i := of_decide_eq_true h
def nSwap : List (List Bool) := [[false, true, false, true], [false, false, true, true]]
def nTurn : List (List Bool) := [[false, true, false, true], [true, true, false, false]]
def nBoth : List (List Bool) := [[false, false, false, true], [false, true, true, true]]
theorem eSwap : PyData.tuple [.str "0101", .str "0011"] = netD nSwap := by kernel_rfl
theorem eTurn : PyData.tuple [.str "0101", .str "1100"] = netD nTurn := by kernel_rfl
theorem eBoth : PyData.tuple [.str "0001", .str "0111"] = netD nBoth := by kernel_rfl
theorem netSwap : Net nSwap := ⟨by decide, by decide⟩
theorem netTurn : Net nTurn := ⟨by decide, by decide⟩
theorem netBoth : Net nBoth := ⟨by decide, by decide⟩
theorem walk_of {F : List (List Bool)} {r : List Bool} {m t : Nat} (h1 : t < m) (h2 : m ≤ 32) (h3 : orb F r t = orb F r m) (h4 : ∀ j, j < m → ∀ i, i < j → orb F r i ≠ orb F r j) : Walk F r m t := ⟨h1, h2, h3, fun i j a b => h4 j b i a⟩
theorem wSwap1 : Walk nSwap [false, true] 2 0 := walk_of (by decide) (by decide) (by decide) (by decide)
theorem wSwap2 : Walk nSwap [true, false] 2 0 := walk_of (by decide) (by decide) (by decide) (by decide)
theorem wBoth : Walk nBoth [true, false] 2 1 := walk_of (by decide) (by decide) (by decide) (by decide)
theorem wTurn0 : Walk nTurn [false, false] 4 0 := walk_of (by decide) (by decide) (by decide) (by decide)
theorem wTurn1 : Walk nTurn [true, true] 4 0 := walk_of (by decide) (by decide) (by decide) (by decide)
end
end Law

set_option Elab.async false
set_option linter.all false
set_option maxRecDepth 100000
set_option maxHeartbeats 1000000
namespace Law
open PySem Ev
/-! ### order of rows; sorting -/
def bI (b : Bool) : Int := (bitN b : Nat)
theorem row_ints (r : List Bool) : rowD r = .tuple ((r.map bI).map .int) := by
  unfold rowD
  rw [List.map_map]
  rfl
theorem bI_inj : ∀ {r s : List Bool}, r.map bI = s.map bI → r = s
  | [], [], _ => rfl
  | [], _ :: _, h => by cases h
  | _ :: _, [], h => by cases h
  | b :: r, c :: s, h => by
    rw [List.map_cons, List.map_cons, List.cons.injEq] at h
    rw [bI_inj h.2]
    have : b = c := by
      have := h.1
      cases b <;> cases c <;> first | rfl | (exact absurd this (by decide))
    rw [this]
theorem lt_rows (r s : List Bool) : W.dataLt (rowD r) (rowD s) = decide (r.map bI < s.map bI) := by
  rw [row_ints, row_ints, W.dataLt_tuple]
  exact W.dataLt_ints _ _
theorem le_def (a b : PyData) : W.dataLe false (id : PyData → PyData) a b = !W.dataLt b a := rfl
theorem le_total : W.TotalLe (W.dataLe false (id : PyData → PyData)) := W.sortLe_total _ false _
theorem le_rows (r s : List Bool) : W.dataLe false (id : PyData → PyData) (rowD r) (rowD s) = decide (r.map bI ≤ s.map bI) := by
  rw [le_def, lt_rows]
  have : (s.map bI < r.map bI) ↔ ¬ (r.map bI ≤ s.map bI) := by rw [List.not_le]
  by_cases h : r.map bI ≤ s.map bI
  · rw [decide_eq_true h, decide_eq_false (fun z => this.mp z h)]
    rfl
  · rw [decide_eq_false h, decide_eq_true (this.mpr h)]
    rfl
theorem minD_le : ∀ (xs : List PyData) (x y : PyData), y ∈ x :: xs → W.dataLe false (id : PyData → PyData) (W.minD x xs) y = true
  | [], x, y, h => by
    rw [List.mem_singleton.mp h]
    exact le_total.refl _
  | z :: xs, x, y, h => by
    show W.dataLe false (id : PyData → PyData) (W.minD (if W.dataLt z x then z else x) xs) y = true
    have h1 := minD_le xs (if W.dataLt z x then z else x) _ List.mem_cons_self
    by_cases hc : W.dataLt z x = true
    · simp only [hc, if_true] at h1 ⊢
      rcases List.mem_cons.mp h with e | e
      · subst e
        refine le_total.trans _ _ _ h1 ?_
        have ht := le_total.total y z
        rw [le_def, le_def, hc] at ht
        rw [le_def]
        simpa using ht
      · exact minD_le xs z y e
    · have hc' : W.dataLt z x = false := by simpa using hc
      simp only [hc', Bool.false_eq_true, if_false] at h1 ⊢
      rcases List.mem_cons.mp h with e | e
      · rw [e]; exact h1
      · rcases List.mem_cons.mp e with e | e
        · subst e
          exact le_total.trans _ _ _ h1 (by rw [le_def, hc']; rfl)
        · exact minD_le xs x y (List.mem_cons_of_mem _ e)
theorem min_row {l : List (List Bool)} {n : Nat} (hl : l ≠ []) (hn : ∀ r ∈ l, r.length = n) : ∃ s ∈ l, minB [.list (l.map rowD)] = some (rowD s) ∧ ∀ q ∈ l, s.map bI ≤ q.map bI := by
  obtain ⟨s, h1, h2⟩ := min_rows hl hn
  refine ⟨s, h1, h2, fun q hq => ?_⟩
  obtain ⟨r, l', rfl⟩ := List.exists_cons_of_ne_nil hl
  have h3 : (if allAlike ((r :: l').map rowD) && shallow (.list ((r :: l').map rowD)) && !isNone (rowD r) then some (W.minD (rowD r) (l'.map rowD)) else none) = some (rowD s) := h2
  have h4 : W.minD (rowD r) (l'.map rowD) = rowD s := by
    split at h3
    · exact Option.some.inj h3
    · cases h3
  have h5 := minD_le (l'.map rowD) (rowD r) (rowD q) (by rw [← List.map_cons]; exact List.mem_map_of_mem hq)
  rw [h4, le_rows] at h5
  exact of_decide_eq_true h5
theorem min_one {s s' : List Bool} (h : s.map bI ≤ s'.map bI) (h' : s'.map bI ≤ s.map bI) : s = s' := bI_inj (List.le_antisymm h h')
/-- sorted rows -/
theorem sort_rows {l m : List (List Bool)} (hp : l.Perm m) (hs : m.Pairwise fun a b => a.map bI ≤ b.map bI) : sortL (l.map rowD) = m.map rowD := by
  unfold sortL
  rw [← W.sort_maps (r := fun a b : List Bool => decide (a.map bI ≤ b.map bI)) rowD fun a _ b _ => (le_rows a b).symm]
  congr 1
  refine List.Perm.eq_of_pairwise (le := fun a b => decide (a.map bI ≤ b.map bI) = true) (fun a b _ _ h1 h2 => min_one (of_decide_eq_true h1) (of_decide_eq_true h2)) ?_ (hs.imp fun h => decide_eq_true h) ((List.mergeSort_perm _ _).trans hp)
  refine List.pairwise_mergeSort (fun a b c h1 h2 => ?_) (fun a b => ?_) l
  · rw [← le_rows] at *
    exact le_total.trans _ _ _ h1 h2
  · rw [← le_rows, ← le_rows]
    have := le_total.total (rowD a) (rowD b)
    simpa using this
theorem le_ints (a b : Int) : W.dataLe false (id : PyData → PyData) (.int a) (.int b) = decide (a ≤ b) := by
  rw [le_def, W.dataLt_int, W.not_lt_int]
theorem sort_ints {l m : List Int} (hp : l.Perm m) : sortL (l.map .int) = sortL (m.map .int) := by
  unfold sortL
  rw [← W.sort_maps (r := fun a b : Int => decide (a ≤ b)) PyData.int fun a _ b _ => (le_ints a b).symm, ← W.sort_maps (r := fun a b : Int => decide (a ≤ b)) PyData.int fun a _ b _ => (le_ints a b).symm]
  congr 1
  have pw : ∀ l : List Int, (l.mergeSort fun a b => decide (a ≤ b)).Pairwise fun a b => decide (a ≤ b) = true := fun l =>
    List.pairwise_mergeSort (le := fun a b : Int => decide (a ≤ b)) (fun a b c h1 h2 => decide_eq_true (Int.le_trans (of_decide_eq_true h1) (of_decide_eq_true h2))) (fun a b => by
      rcases Int.le_total a b with h | h
      · simp [h]
      · simp [h]) l
  exact List.Perm.eq_of_pairwise (le := fun a b => decide (a ≤ b) = true) (fun a b _ _ h1 h2 => Int.le_antisymm (of_decide_eq_true h1) (of_decide_eq_true h2)) (pw l) (pw m) ((List.mergeSort_perm _ _).trans (hp.trans (List.mergeSort_perm _ _).symm))
/-! ### all rows -/
def rowsG : Nat → List (List Bool)
  | 0 => [[]]
  | n + 1 => (rowsG n).map (· ++ [false]) ++ (rowsG n).map (· ++ [true])
theorem five {P : Nat → Prop} (h0 : P 0) (h1 : P 1) (h2 : P 2) (h3 : P 3) (h4 : P 4) (h5 : P 5) {n : Nat} (hn : n ≤ 5) : P n := by
  obtain rfl | rfl | rfl | rfl | rfl | rfl : n = 0 ∨ n = 1 ∨ n = 2 ∨ n = 3 ∨ n = 4 ∨ n = 5 := by omega
  · exact h0
  · exact h1
  · exact h2
  · exact h3
  · exact h4
  · exact h5
theorem rows_perm {n : Nat} (hn : n ≤ 5) : (rowsG n).Perm (rowsF n) :=
  five (P := fun n => (rowsG n).Perm (rowsF n)) (by decide +kernel) (by decide +kernel) (by decide +kernel) (by decide +kernel) (by decide +kernel) (by decide +kernel) hn
theorem rows_up {n : Nat} (hn : n ≤ 5) : (rowsF n).Pairwise fun a b => a.map bI ≤ b.map bI :=
  five (P := fun n => (rowsF n).Pairwise fun a b => a.map bI ≤ b.map bI) (by decide +kernel) (by decide +kernel) (by decide +kernel) (by decide +kernel) (by decide +kernel) (by decide +kernel) hn
theorem rows_nd {n : Nat} (hn : n ≤ 5) : (rowsF n).Nodup :=
  five (P := fun n => (rowsF n).Nodup) (by decide +kernel) (by decide +kernel) (by decide +kernel) (by decide +kernel) (by decide +kernel) (by decide +kernel) hn
theorem rows_all : ∀ (n : Nat) (r : List Bool), r.length = n → r ∈ rowsF n
  | 0, r, h => by
    rw [List.length_eq_zero_iff.mp h]
    exact List.mem_singleton.mpr rfl
  | n + 1, r, h => by
    have hne : r ≠ [] := fun e => by rw [e] at h; cases h
    have e := List.dropLast_concat_getLast hne
    show r ∈ (rowsF n).flatMap fun r => [r ++ [false], r ++ [true]]
    refine List.mem_flatMap.mpr ⟨r.dropLast, rows_all n _ (by rw [List.length_dropLast, h]; rfl), ?_⟩
    rw [← e]
    cases r.getLast hne <;> simp
section
variable (k : Nat) (st : Store)
theorem rows_in_at {n : Nat} (hn : n ≤ 5) : callD tbl (k + 1) i_rows_in [.d (.int (n : Nat))] st = .ok (.d (.list (sortL ((rowsG n).map rowD)))) (st.take st.length) :=
  five (P := fun n => callD tbl (k + 1) i_rows_in [.d (.int (n : Nat))] st = .ok (.d (.list (sortL ((rowsG n).map rowD)))) (st.take st.length)) (by kernel_rfl) (by kernel_rfl) (by kernel_rfl) (by kernel_rfl) (by kernel_rfl) (by kernel_rfl) hn
theorem run_rows_in {n : Nat} (hn : n ≤ 5) : callD tbl (k + 1) i_rows_in [.d (.int (n : Nat))] st = .ok (.d (.list ((rowsF n).map rowD))) st := by
  rw [rows_in_at k st hn, List.take_length, sort_rows (rows_perm hn) (rows_up hn)]
end
end Law

set_option Elab.async false
set_option linter.all false
set_option maxRecDepth 100000
set_option maxHeartbeats 1000000
namespace Law
open PySem Ev
/-! ### rounds -/
theorem orb_per {F : List (List Bool)} {r : List Bool} {m t : Nat} (hw : Walk F r m t) (q j : Nat) : orb F r (t + j + (m - t) * q) = orb F r (t + j) := orb_far hw q j
theorem orbs_at (F : List (List Bool)) (r : List Bool) (m i : Nat) (h : i < (orbs F r m).length) : (orbs F r m)[i] = orb F r i := by
  show ((List.range m).map (orb F r))[i]'(by rw [orbs_len] at h; rw [List.length_map, List.length_range]; exact h) = _
  rw [List.getElem_map, List.getElem_range]
theorem drop_orbs (F : List (List Bool)) (r : List Bool) {m t : Nat} (h : t ≤ m) : (orbs F r m).drop t = orbs F (orb F r t) (m - t) := by
  refine List.ext_getElem (by rw [List.length_drop, orbs_len, orbs_len]) fun i h1 h2 => ?_
  rw [List.getElem_drop, orbs_at, orbs_at, orb_add]
/-- a row that is met again and again -/
def InC (F : List (List Bool)) (r x : List Bool) : Prop := ∀ N, ∃ i, N ≤ i ∧ orb F r i = x
theorem inC_iff {F : List (List Bool)} {r x : List Bool} {m t : Nat} (hw : Walk F r m t) : x ∈ (orbs F r m).drop t ↔ InC F r x := by
  rw [drop_orbs F r (Nat.le_of_lt hw.lt)]
  unfold orbs
  constructor
  · intro h
    obtain ⟨i, hi, rfl⟩ := List.mem_map.mp h
    intro N
    refine ⟨t + i + (m - t) * N, ?_, ?_⟩
    · have h1 : 1 ≤ m - t := by have := hw.lt; omega
      have := Nat.mul_le_mul_right N h1
      omega
    · rw [orb_per hw, orb_add]
  · intro h
    obtain ⟨i, hi, rfl⟩ := h t
    refine List.mem_map.mpr ⟨(i - t) % (m - t), List.mem_range.mpr (Nat.mod_lt _ (by have := hw.lt; omega)), ?_⟩
    rw [orb_add, orb_mod hw i hi]
/-- two rows come to one row -/
def Meet (F : List (List Bool)) (r r' : List Bool) : Prop := ∃ i j, orb F r i = orb F r' j
theorem Meet.symm {F : List (List Bool)} {r r' : List Bool} (h : Meet F r r') : Meet F r' r := by
  obtain ⟨i, j, h⟩ := h
  exact ⟨j, i, h.symm⟩
theorem meet_inC {F : List (List Bool)} {r r' x : List Bool} (h : Meet F r r') (hx : InC F r x) : InC F r' x := by
  obtain ⟨i, j, h⟩ := h
  intro N
  obtain ⟨a, h1, h2⟩ := hx (N + i)
  refine ⟨j + (a - i), by omega, ?_⟩
  rw [← orb_add, ← h, orb_add, show i + (a - i) = a by omega, h2]
/-- what is chosen for a row: steps until one comes again, the tail, the least row of the round, its place -/
structure Rd (F : List (List Bool)) (r : List Bool) (p : Nat × Nat × List Bool × Nat) : Prop where
  walk : Walk F r p.1 p.2.1
  mem : p.2.2.1 ∈ (orbs F r p.1).drop p.2.1
  min : minB [.list (((orbs F r p.1).drop p.2.1).map rowD)] = some (rowD p.2.2.1)
  le : ∀ q ∈ (orbs F r p.1).drop p.2.1, p.2.2.1.map bI ≤ q.map bI
  idx : indexM .list [.list (((orbs F r p.1).drop p.2.1).map rowD), rowD p.2.2.1] = some (.int (p.2.2.2 : Nat))
  lt : p.2.2.2 < p.1 - p.2.1
theorem rd_ex {F : List (List Bool)} (hF : Net F) {r : List Bool} (hr : r.length = F.length) : ∃ p, Rd F r p := by
  obtain ⟨m, t, h1, h2, h3, h4⟩ := orb_again hF hr
  have hw : Walk F r m t := ⟨h1, h2, h3, h4⟩
  obtain ⟨s, hs, hmin, hle⟩ := min_row (l := (orbs F r m).drop t) (n := F.length) (by
    intro e
    have := congrArg List.length e
    rw [List.length_drop, orbs_len] at this
    simp at this
    omega) (fun q hq => by
      obtain ⟨i, _, rfl⟩ := List.mem_map.mp (List.mem_of_mem_drop hq)
      exact orb_len hr i)
  obtain ⟨j, hj, hidx⟩ := index_row hs
  exact ⟨(m, t, s, j), hw, hs, hmin, hle, hidx, by rw [List.length_drop, orbs_len] at hj; exact hj⟩
open Classical in
noncomputable def rd (F : List (List Bool)) (r : List Bool) : Nat × Nat × List Bool × Nat := if h : ∃ p, Rd F r p then h.choose else (0, 0, [], 0)
theorem rd_ok {F : List (List Bool)} (hF : Net F) {r : List Bool} (hr : r.length = F.length) : Rd F r (rd F r) := by
  unfold rd
  rw [dif_pos (rd_ex hF hr)]
  exact (rd_ex hF hr).choose_spec
noncomputable def tailF (F : List (List Bool)) (r : List Bool) : Nat := (rd F r).2.1
noncomputable def perF (F : List (List Bool)) (r : List Bool) : Nat := (rd F r).1 - (rd F r).2.1
noncomputable def leastF (F : List (List Bool)) (r : List Bool) : List Bool := (rd F r).2.2.1
noncomputable def keyF (F : List (List Bool)) (r : List Bool) : List (List Bool) := ((orbs F r (rd F r).1).drop (rd F r).2.1).drop (rd F r).2.2.2 ++ ((orbs F r (rd F r).1).drop (rd F r).2.1).take (rd F r).2.2.2
/-- a walk is one -/
theorem walk_one {F : List (List Bool)} {r : List Bool} {m t m' t' : Nat} (h : Walk F r m t) (h' : Walk F r m' t') : m = m' ∧ t = t' := by
  have e : m = m' := by
    rcases Nat.lt_trichotomy m m' with c | c | c
    · exact absurd h.again (h'.apart t m h.lt c)
    · exact c
    · exact absurd h'.again (h.apart t' m' h'.lt c)
  subst e
  refine ⟨rfl, ?_⟩
  rcases Nat.lt_trichotomy t t' with c | c | c
  · exact absurd (h.again.trans h'.again.symm) (h.apart t t' c h'.lt)
  · exact c
  · exact absurd (h'.again.trans h.again.symm) (h.apart t' t c h.lt)
theorem place_get {l : List (List Bool)} {s : List Bool} {j : Nat} (h : indexM .list [.list (l.map rowD), rowD s] = some (.int (j : Nat))) : l[j]? = some s := by
  have h2 : (if shallow (rowD s) && !isDict (rowD s) then (Ev.placeOf (rowD s) (l.map rowD)).map fun (j : Nat) => PyData.int (j : Int) else none) = some (.int (j : Nat)) := h
  rw [if_pos (by simp [shallow, depth_row, isDict, rowD, PyData.depth, depth_bits])] at h2
  obtain ⟨i, hi, e⟩ := Option.map_eq_some_iff.mp h2
  have e : (i : Int) = (j : Int) := by
    injection e
  have e : i = j := by omega
  subst e
  unfold Ev.placeOf at hi
  rw [List.findIdx?_eq_some_iff_getElem] at hi
  obtain ⟨h3, h4, _⟩ := hi
  rw [List.length_map] at h3
  rw [List.getElem_map, eqv_row] at h4
  rw [List.getElem?_eq_getElem h3, eq_of_beq h4]
section
variable {F : List (List Bool)} (hF : Net F)
include hF
theorem least_at {r : List Bool} (hr : r.length = F.length) : leastF F r = orb F r (tailF F r + (rd F r).2.2.2) := by
  have R := rd_ok hF hr
  have h := place_get R.idx
  rw [drop_orbs F r (Nat.le_of_lt R.walk.lt)] at h
  unfold orbs at h
  rw [List.getElem?_map, List.getElem?_range R.lt] at h
  show (rd F r).2.2.1 = orb F r ((rd F r).2.1 + (rd F r).2.2.2)
  rw [← orb_add]
  exact (Option.some.inj h).symm
theorem per_pos {r : List Bool} (hr : r.length = F.length) : 0 < perF F r := by
  have := (rd_ok hF hr).walk.lt
  unfold perF
  omega
/-- the round begins with its least row -/
theorem key_is {r : List Bool} (hr : r.length = F.length) : keyF F r = orbs F (leastF F r) (perF F r) := by
  have R := rd_ok hF hr
  have hl := least_at hF hr
  have hp := per_pos hF hr
  have hj : (rd F r).2.2.2 < perF F r := R.lt
  unfold keyF
  rw [drop_orbs F r (Nat.le_of_lt R.walk.lt)]
  show (orbs F (orb F r (tailF F r)) (perF F r)).drop _ ++ (orbs F (orb F r (tailF F r)) (perF F r)).take _ = _
  generalize hjj : (rd F r).2.2.2 = j at *
  refine List.ext_getElem ?_ fun i h1 h2 => ?_
  · rw [List.length_append, List.length_drop, List.length_take, orbs_len, orbs_len]
    omega
  · rw [orbs_len] at h2
    have e2 : (orbs F (leastF F r) (perF F r))[i] = orb F r (tailF F r + (j + i)) := by
      rw [orbs_at, hl, orb_add]
      congr 1
      omega
    rw [e2]
    by_cases hi : i < perF F r - j
    · rw [List.getElem_append_left (by rw [List.length_drop, orbs_len]; exact hi), List.getElem_drop, orbs_at, orb_add]
    · rw [List.getElem_append_right (by rw [List.length_drop, orbs_len]; omega), List.getElem_take, orbs_at, orb_add, List.length_drop, orbs_len]
      have h3 := orb_per R.walk 1 (i - (perF F r - j))
      refine h3.symm.trans ?_
      congr 1
      show tailF F r + (i - (perF F r - j)) + perF F r * 1 = _
      omega
theorem key_len {r : List Bool} (hr : r.length = F.length) : (keyF F r).length = perF F r := by
  rw [key_is hF hr, orbs_len]
theorem key_head {r : List Bool} (hr : r.length = F.length) : (keyF F r).head? = some (leastF F r) := by
  rw [key_is hF hr]
  obtain ⟨p, hp⟩ : ∃ p, perF F r = p + 1 := ⟨perF F r - 1, by have := per_pos hF hr; omega⟩
  rw [hp]
  unfold orbs
  rw [List.range_succ_eq_map]
  rfl
theorem least_orb {r : List Bool} (hr : r.length = F.length) : orb F (leastF F r) (perF F r) = leastF F r := by
  have R := rd_ok hF hr
  rw [least_at hF hr, orb_add]
  have h3 := orb_per R.walk 1 (rd F r).2.2.2
  rw [Nat.mul_one] at h3
  exact h3
theorem least_apart {r : List Bool} (hr : r.length = F.length) {i : Nat} (h0 : 0 < i) (hi : i < perF F r) : orb F (leastF F r) i ≠ leastF F r := by
  have R := rd_ok hF hr
  have hj : (rd F r).2.2.2 < perF F r := R.lt
  rw [least_at hF hr, orb_add]
  have hp : perF F r = (rd F r).1 - (rd F r).2.1 := rfl
  have ht : tailF F r = (rd F r).2.1 := rfl
  have hlt := R.walk.lt
  by_cases hc : (rd F r).2.2.2 + i < perF F r
  · exact (R.walk.apart (tailF F r + (rd F r).2.2.2) (tailF F r + (rd F r).2.2.2 + i) (by omega) (by omega)).symm
  · have h3 := orb_per R.walk 1 ((rd F r).2.2.2 + i - perF F r)
    rw [Nat.mul_one] at h3
    have e : (rd F r).2.1 + ((rd F r).2.2.2 + i - perF F r) + ((rd F r).1 - (rd F r).2.1) = tailF F r + (rd F r).2.2.2 + i := by omega
    rw [e] at h3
    rw [h3]
    exact R.walk.apart _ _ (by omega) (by omega)
/-- rows of one round have one key -/
theorem key_meet {r r' : List Bool} (hr : r.length = F.length) (hr' : r'.length = F.length) : keyF F r = keyF F r' ↔ Meet F r r' := by
  constructor
  · intro h
    have h1 := key_head hF hr
    rw [h, key_head hF hr'] at h1
    have h2 := (Option.some.inj h1)
    exact ⟨_, _, (least_at hF hr).symm.trans (h2.symm.trans (least_at hF hr'))⟩
  · intro h
    have R := rd_ok hF hr
    have R' := rd_ok hF hr'
    have hs : leastF F r = leastF F r' := by
      refine min_one ?_ ?_
      · exact R.le _ ((inC_iff R.walk).mpr (meet_inC h.symm ((inC_iff R'.walk).mp R'.mem)))
      · exact R'.le _ ((inC_iff R'.walk).mpr (meet_inC h ((inC_iff R.walk).mp R.mem)))
    have hp : perF F r = perF F r' := by
      rcases Nat.lt_trichotomy (perF F r) (perF F r') with c | c | c
      · have := least_apart hF hr' (per_pos hF hr) c
        rw [← hs] at this
        exact absurd (least_orb hF hr) this
      · exact c
      · have := least_apart hF hr (per_pos hF hr') c
        rw [hs] at this
        exact absurd (least_orb hF hr') this
    rw [key_is hF hr, key_is hF hr', hs, hp]
theorem key_mem_len {r : List Bool} (hr : r.length = F.length) : ∀ q ∈ keyF F r, q.length = F.length := by
  intro q hq
  rw [key_is hF hr] at hq
  obtain ⟨i, _, rfl⟩ := List.mem_map.mp hq
  rw [least_at hF hr, orb_add]
  exact orb_len hr _
end
end Law

set_option Elab.async false
set_option linter.all false
set_option maxRecDepth 100000
set_option maxHeartbeats 1000000
namespace Law
open PySem Ev
/-! ### counts of rounds -/
abbrev Round := List (List Bool)
abbrev roundD (c : Round) : PyData := .tuple (c.map rowD)
theorem eqv_rows : ∀ a b : Round, PyData.eqvAll (a.map rowD) (b.map rowD) = (a == b)
  | [], [] => by simp [PyData.eqvAll]
  | [], c :: s => by simp [PyData.eqvAll]
  | b :: r, [] => by simp [PyData.eqvAll]
  | b :: r, c :: s => by
    rw [List.map_cons, List.map_cons, PyData.eqvAll, eqv_row, eqv_rows r s]
    rfl
theorem eqv_round (a b : Round) : PyData.eqv (roundD a) (roundD b) = (a == b) := by
  unfold roundD
  rw [PyData.eqv]
  exact eqv_rows a b
theorem keyed_rows : ∀ l : Round, keyedAll (l.map rowD) = true
  | [] => by simp [keyedAll]
  | b :: r => by simp [keyedAll, rowD, keyed, keyed_bits b, keyed_rows r]
theorem depth_round (c : Round) : (roundD c).depth ≤ 2 := by
  have := depth_rows c
  rw [depth_tuple]
  omega
theorem keyOk_round (c : Round) : keyOk (roundD c) = true := by
  have h : keyed (roundD c) = true := by simp [roundD, keyed, keyed_rows]
  have h2 := depth_round c
  unfold keyOk
  rw [h, decide_eq_true (by omega)]
  rfl
def dct (L : List Round) : List (PyData × PyData) := L.eraseDups.map fun c => (roundD c, .int (L.count c : Nat))
theorem fits_dct (L : List Round) (c : Round) : keyFits (dct L) (roundD c) = true := by
  unfold keyFits
  rw [keyOk_round, Bool.true_and, List.all_eq_true]
  intro kv hkv
  obtain ⟨j, _, rfl⟩ := List.mem_map.mp hkv
  rfl
theorem find_self {α : Type} [BEq α] [LawfulBEq α] (c : α) : ∀ l : List α, c ∈ l → l.find? (fun z => z == c) = some c
  | [], h => by cases h
  | a :: l, h => by
    rw [List.find?_cons]
    by_cases e : a = c
    · subst e
      simp
    · rw [beq_false_of_ne e]
      exact find_self c l ((List.mem_cons.mp h).resolve_left fun z => e z.symm)
theorem get_dct (L : List Round) (c : Round) : getK (dct L) (roundD c) = if c ∈ L then some (.int (L.count c : Nat)) else none := by
  unfold getK dct
  rw [List.find?_map]
  have e : ((fun kv : PyData × PyData => PyData.eqv kv.1 (roundD c)) ∘ fun c => (roundD c, PyData.int (L.count c : Nat))) = fun z => z == c := by
    funext z
    exact eqv_round z c
  rw [e]
  by_cases h : c ∈ L
  · rw [if_pos h, find_self c _ (List.mem_eraseDups.mpr h)]
    rfl
  · rw [if_neg h]
    have : L.eraseDups.find? (fun z => z == c) = none := by
      rw [List.find?_eq_none]
      intro z hz e2
      rw [eq_of_beq e2] at hz
      exact h (List.mem_eraseDups.mp hz)
    rw [this]
    rfl
theorem got_dct (L : List Round) (c : Round) : (getK (dct L) (roundD c)).getD (.int 0) = .int (L.count c : Nat) := by
  rw [get_dct]
  by_cases h : c ∈ L
  · rw [if_pos h]; rfl
  · rw [if_neg h, List.count_eq_zero_of_not_mem h]; rfl
theorem any_dct (L : List Round) (c : Round) : ((dct L).any fun kv => PyData.eqv kv.1 (roundD c)) = decide (c ∈ L) := by
  unfold dct
  rw [List.any_map]
  have e : ((fun kv : PyData × PyData => PyData.eqv kv.1 (roundD c)) ∘ fun c => (roundD c, PyData.int (L.count c : Nat))) = fun z => z == c := by
    funext z
    exact eqv_round z c
  rw [e]
  by_cases h : c ∈ L
  · rw [decide_eq_true h, List.any_eq_true]
    exact ⟨c, List.mem_eraseDups.mpr h, by simp⟩
  · rw [decide_eq_false h, List.any_eq_false]
    intro z hz e2
    rw [eq_of_beq e2] at hz
    exact h (List.mem_eraseDups.mp hz)
theorem put_dct (L : List Round) (c : Round) : Ev.putK (dct L) (roundD c) (.int ((L.count c : Nat) + 1)) = dct (L ++ [c]) := by
  unfold Ev.putK
  rw [any_dct]
  unfold dct
  rw [List.eraseDups_append]
  by_cases h : c ∈ L
  · have e0 : [c].removeAll L = [] := by simp [List.removeAll, h]
    rw [decide_eq_true h, if_pos rfl, e0, List.eraseDups_nil, List.append_nil, List.map_map]
    refine List.map_congr_left fun z hz => ?_
    show (if PyData.eqv (roundD z) (roundD c) = true then _ else _) = _
    rw [eqv_round, List.count_append]
    by_cases e : z = c
    · subst e
      simp
    · rw [beq_false_of_ne e, if_neg (by decide)]
      have : [c].count z = 0 := List.count_eq_zero_of_not_mem (by simpa using e)
      rw [this]
      rfl
  · have e0 : [c].removeAll L = [c] := by simp [List.removeAll, h]
    rw [decide_eq_false h, if_neg (by decide), e0, List.map_append]
    congr 1
    · refine List.map_congr_left fun z hz => ?_
      have e : z ≠ c := fun e => h (e ▸ List.mem_eraseDups.mp hz)
      have : [c].count z = 0 := List.count_eq_zero_of_not_mem (by simpa using e)
      rw [List.count_append, this]
      rfl
    · simp [List.eraseDups_cons, List.count_append, List.count_eq_zero_of_not_mem h]
theorem dups_le {α : Type} [BEq α] : ∀ (n : Nat) (l : List α), l.length ≤ n → l.eraseDups.length ≤ l.length
  | _, [], _ => by rw [List.eraseDups_nil]; exact Nat.le_refl _
  | 0, _ :: _, h => by simp at h
  | n + 1, a :: l, h => by
    rw [List.eraseDups_cons, List.length_cons, List.length_cons]
    have h1 : (l.filter fun b => !b == a).length ≤ l.length := List.length_filter_le ..
    have := dups_le n (l.filter fun b => !b == a) (by simp at h; omega)
    omega
theorem dct_len (L : List Round) : (dct L).length ≤ L.length := by
  unfold dct
  rw [List.length_map]
  exact dups_le _ L (Nat.le_refl _)
theorem depth_listL (xs : List PyData) : PyData.depth (.list xs) = PyData.depthAll xs + 1 := by simp [PyData.depth, Nat.add_comm]
theorem getM_dct (L : List Round) (c : Round) : getM .dict [.dict (dct L), roundD c, .int 0] = some (.int (L.count c : Nat)) := by
  show (if keyFits (dct L) (roundD c) && keyed (.int 0) then some ((getK (dct L) (roundD c)).getD (.int 0)) else none) = _
  rw [fits_dct, got_dct]
  rfl
theorem putD_dct (L : List Round) (c : Round) (h : L.length < sizeLine) : putD (.dict (dct L)) (roundD c) (.int ((L.count c : Nat) + 1)) = some (.dict (dct (L ++ [c]))) := by
  show (if keyFits (dct L) (roundD c) && decide ((dct L).length < sizeLine) then some (PyData.dict (Ev.putK (dct L) (roundD c) (.int ((L.count c : Nat) + 1)))) else none) = _
  rw [fits_dct, decide_eq_true (Nat.lt_of_le_of_lt (dct_len L) h), put_dct]
  rfl
theorem itemD_dct (L : List Round) (c : Round) (h : c ∈ L) : itemD (.dict (dct L)) (roundD c) = some (.int (L.count c : Nat)) := by
  show (if keyFits (dct L) (roundD c) then getK (dct L) (roundD c) else none) = _
  rw [fits_dct, get_dct, if_pos h]
  rfl
/-! ### sorted rounds -/
def leC (a b : Round) : Bool := W.dataLe false (id : PyData → PyData) (roundD a) (roundD b)
def sr (L : List Round) : List Round := L.eraseDups.mergeSort leC
theorem sort_rounds (E : List Round) : sortL (E.map roundD) = (E.mergeSort leC).map roundD := by
  unfold sortL
  rw [W.sort_maps (r := leC) roundD fun _ _ _ _ => rfl]
theorem alike_rows2 {n : Nat} : ∀ a b : Round, (∀ r ∈ a, r.length = n) → (∀ r ∈ b, r.length = n) → W.alikeAll (a.map rowD) (b.map rowD) = true
  | [], [], _, _ => by simp [W.alikeAll]
  | [], _ :: _, _, _ => by simp [W.alikeAll]
  | _ :: _, [], _, _ => by simp [W.alikeAll]
  | r :: a, s :: b, ha, hb => by
    have h1 := alike_bits r s (by rw [ha r List.mem_cons_self, hb s List.mem_cons_self])
    have h2 := alike_rows2 a b (fun q hq => ha q (List.mem_cons_of_mem _ hq)) fun q hq => hb q (List.mem_cons_of_mem _ hq)
    rw [List.map_cons, List.map_cons, W.alikeAll, h2, rowD, rowD, W.alike, h1]
    rfl
/-- what is asked of rounds -/
def Rounds (n : Nat) (E : List Round) : Prop := ∀ c ∈ E, c ≠ [] ∧ ∀ r ∈ c, r.length = n
theorem alike_rounds {n : Nat} {a b : Round} (ha : ∀ r ∈ a, r.length = n) (hb : ∀ r ∈ b, r.length = n) : W.alike (roundD a) (roundD b) = true := by
  rw [roundD, roundD, W.alike]
  exact alike_rows2 a b ha hb
theorem depthAll_le {α : Type} (f : α → PyData) {m : Nat} : ∀ {l : List α}, (∀ x ∈ l, (f x).depth ≤ m) → PyData.depthAll (l.map f) ≤ m
  | [], _ => by simp [PyData.depthAll]
  | x :: l, h => by
    rw [List.map_cons, PyData.depthAll]
    exact Nat.max_le.mpr ⟨h x List.mem_cons_self, depthAll_le f fun y hy => h y (List.mem_cons_of_mem _ hy)⟩
theorem srt_of {α : Type} (f : α → PyData) {l : List α} (ha : ∀ x ∈ l, ∀ y ∈ l, W.alike (f x) (f y) = true) (hd : ∀ x ∈ l, (f x).depth ≤ 50) (ht : (∀ x ∈ l, ∃ y ys, f x = .tuple (y :: ys)) ∨ (∀ x ∈ l, isTup (f x) = false ∧ isNone (f x) = false)) : srtOk (l.map f) = true := by
  unfold srtOk
  have h1 : allAlike (l.map f) = true := by
    unfold allAlike
    rw [List.all_eq_true]
    intro a haa
    rw [List.all_eq_true]
    intro b hb
    obtain ⟨p, hp, rfl⟩ := List.mem_map.mp haa
    obtain ⟨q, hq, rfl⟩ := List.mem_map.mp hb
    exact ha p hp q hq
  have h2 : shallow (.list (l.map f)) = true := by
    have := depthAll_le f hd
    unfold shallow
    rw [depth_listL, decide_eq_true (by omega)]
  rw [h1, h2, Bool.true_and, Bool.true_and]
  rcases ht with ht | ht
  · have h3 : ((l.map f).all fun d => !isNone d) = true := by
      rw [List.all_eq_true]
      intro a haa
      obtain ⟨p, hp, rfl⟩ := List.mem_map.mp haa
      obtain ⟨y, ys, e⟩ := ht p hp
      rw [e]
      rfl
    rw [h3, Bool.true_and, Bool.or_eq_true, Bool.or_eq_true]
    refine .inl (.inr (List.all_eq_true.mpr fun a haa => ?_))
    obtain ⟨p, hp, rfl⟩ := List.mem_map.mp haa
    obtain ⟨y, ys, e⟩ := ht p hp
    rw [e]
  · have h3 : ((l.map f).all fun d => !isNone d) = true := by
      rw [List.all_eq_true]
      intro a haa
      obtain ⟨p, hp, rfl⟩ := List.mem_map.mp haa
      rw [(ht p hp).2]
      rfl
    have h4 : ((l.map f).all fun d => !isTup d) = true := by
      rw [List.all_eq_true]
      intro a haa
      obtain ⟨p, hp, rfl⟩ := List.mem_map.mp haa
      rw [(ht p hp).1]
      rfl
    rw [h3, h4, Bool.or_true]
    rfl
theorem sort_dct {n : Nat} {L : List Round} (hL : Rounds n L) : sortB [.dict (dct L)] = some (.list ((sr L).map roundD)) := by
  have e : (dct L).map (·.1) = L.eraseDups.map roundD := by
    unfold dct
    rw [List.map_map]
    rfl
  show (if srtOk ((dct L).map (·.1)) then some (PyData.list (sortL ((dct L).map (·.1)))) else none) = _
  have hm : ∀ x ∈ L.eraseDups, x ≠ [] ∧ ∀ r ∈ x, r.length = n := fun x hx => hL x (List.mem_eraseDups.mp hx)
  rw [e, if_pos (srt_of roundD (fun x hx y hy => alike_rounds (hm x hx).2 (hm y hy).2) (fun x _ => Nat.le_trans (depth_round x) (by decide)) (.inl fun x hx => ?_)), sort_rounds]
  · rfl
  · obtain ⟨r, c, rfl⟩ := List.exists_cons_of_ne_nil (hm x hx).1
    exact ⟨_, _, rfl⟩
abbrev lotD (L : List Round) (c : Round) : PyData := .tuple [roundD c, .int (L.count c : Nat)]
theorem sortIt_dct {n : Nat} {L : List Round} (hL : Rounds n L) : sortItB [.dict (dct L)] = some (.list ((sr L).map (lotD L))) := by
  have e : (dct L).map pairD = L.eraseDups.map (lotD L) := by
    unfold dct
    rw [List.map_map]
    rfl
  show (if srtOk ((dct L).map pairD) then some (PyData.list (sortL ((dct L).map pairD))) else none) = _
  have hm : ∀ x ∈ L.eraseDups, x ≠ [] ∧ ∀ r ∈ x, r.length = n := fun x hx => hL x (List.mem_eraseDups.mp hx)
  have hal : ∀ x ∈ L.eraseDups, ∀ y ∈ L.eraseDups, W.alike (roundD x) (roundD y) = true := fun x hx y hy => alike_rounds (hm x hx).2 (hm y hy).2
  rw [e, if_pos (srt_of (lotD L) (fun x hx y hy => ?_) (fun x _ => ?_) (.inl fun x hx => ⟨_, _, rfl⟩))]
  · congr 2
    unfold sortL sr
    rw [W.sort_maps (r := leC) (lotD L) fun a ha b hb => ?_]
    show leC a b = !W.dataLt (lotD L b) (lotD L a)
    rw [lotD, lotD, W.dataLt_pair (hal b hb a ha) (by simp [W.alike]), eqv_round]
    by_cases h : b = a
    · subst h
      rw [beq_self_eq_true, if_pos rfl]
      simp only [PyData.eqv, beq_self_eq_true, if_true]
      exact le_total.refl _
    · rw [beq_false_of_ne h, if_neg (by decide)]
      rfl
  · rw [lotD, lotD, W.alike, W.alikeAll, hal x hx y hy, W.alikeAll, W.alike, W.alikeAll]
    rfl
  · have := depth_round x
    simp only [lotD, depth_tuple, PyData.depthAll, PyData.depth] at *
    omega
theorem sr_perm (L : List Round) : (sr L).Perm L.eraseDups := List.mergeSort_perm _ _
end Law

set_option Elab.async false
set_option linter.all false
set_option maxRecDepth 100000
set_option maxHeartbeats 1000000
namespace Law
open PySem Ev
local macro_rules | `(tactic| array_get_dec) => `(tactic| (first
  | with_reducible refine wp_assoc ?_
  | with_reducible refine wp_skip ?_
  | with_reducible refine wp_set ?_
  | with_reducible refine wp_if ?_
  | with_reducible refine wp_ret ?_
  | with_reducible refine wp_drop ?_
  | with_reducible refine wp_asg ?_
  | with_reducible refine wp_par ?_
  | with_reducible refine wp_put ?_
  | with_reducible refine wp_brk ?_
  | with_reducible refine wp_cont ?_
  | with_reducible refine wp_next ?_
  | with_reducible refine wp_for ?_
  | with_reducible refine wp_while ?_
  | with_reducible refine fnk_d ?_
  | with_reducible refine fnk_d1 ?_
  | with_reducible refine fnk_dc ?_
  | with_reducible refine fnk_nx ?_
  | with_reducible refine fnk_nx1 ?_
  | with_reducible refine fnk_b ?_
  | with_reducible refine turnk_nx ?_
  | with_reducible refine turnk_cont ?_
  | with_reducible refine turnk_brk ?_
  | with_reducible refine turnk_ret ?_
  | with_reducible refine loopk_nx ?_
  | with_reducible refine loopk_ret ?_
  | ((with_reducible refine wp_var1 ?_); refine ⟨_, rfl, ?_⟩)
  | with_reducible refine wp_d ?_
  | with_reducible refine wp_fnv ?_
  | with_reducible refine wp_deref ?_
  | with_reducible refine wp_toD ?_
  | with_reducible refine wp_argW ?_
  | with_reducible refine wp_argF ?_
  | with_reducible refine wp_evD0 ?_
  | with_reducible refine wp_evD ?_
  | with_reducible refine wp_evA0 ?_
  | with_reducible refine wp_evA ?_
  | with_reducible refine wp_evR0 ?_
  | with_reducible refine wp_evR ?_
  | with_reducible refine wp_drs0 ?_
  | with_reducible refine wp_drs ?_
  | with_reducible refine wp_tup ?_
  | with_reducible refine wp_nlist ?_
  | with_reducible refine wp_new ?_
  | with_reducible refine wp_box ?_
  | with_reducible refine wp_bin ?_
  | with_reducible refine wp_item ?_
  | with_reducible refine wp_cmp ?_
  | with_reducible refine wp_chain ?_
  | with_reducible refine wp_e1 ?_
  | with_reducible refine wp_sl00 ?_
  | with_reducible refine wp_sl10 ?_
  | with_reducible refine wp_sl01 ?_
  | with_reducible refine wp_sl11 ?_
  | with_reducible refine wp_tOf ?_
  | with_reducible refine wp_tNot ?_
  | with_reducible refine wp_tAnd ?_
  | with_reducible refine wp_tOr ?_
  | with_reducible refine wp_eAnd ?_
  | with_reducible refine wp_eOr ?_
  | with_reducible refine wp_eNot ?_
  | with_reducible refine wp_eIf ?_
  | with_reducible refine wp_call ?_
  | ((with_reducible refine wp_callV1 ?_); refine ⟨_, rfl, ?_⟩)
  | with_reducible refine wp_bi ?_
  | with_reducible refine wp_nbi ?_
  | with_reducible refine wp_meth ?_
  | with_reducible refine wp_mut ?_
  | with_reducible refine wp_iof ?_
  | with_reducible refine wp_range1 ?_
  | with_reducible refine wp_range2 ?_
  | with_reducible refine wp_zip2 ?_
  | with_reducible refine wp_enum ?_
  | with_reducible refine wp_iby ?_
  | with_reducible refine wp_ncomp ?_
  | with_reducible refine wp_elt ?_
  | ((with_reducible refine wp_src1 ?_); refine ⟨_, (by first | with_reducible assumption | exact rfl), ?_⟩)
  | ((with_reducible refine wp_derefB1 ?_); refine ⟨_, ⟨_, (by first | with_reducible exact at0 | with_reducible exact at1 | with_reducible assumption | exact rfl)⟩, ?_⟩)
  | with_reducible refine lit_t ?_
  | with_reducible refine lit_f ?_
  | with_reducible refine lit2_t ?_
  | with_reducible refine litn_t ?_
  | with_reducible refine litn_f ?_
  | with_reducible refine litn2_t ?_
  | with_reducible refine litn2_f ?_
  | with_reducible refine lit2_f ?_
  | ((with_reducible refine ex_cell1 ?_); refine ⟨_, (by first | with_reducible assumption | exact rfl), ?_⟩)
  | with_reducible refine ex_int ?_
  | with_reducible refine ex_bool ?_
  | with_reducible refine ex_dat ?_
  | with_reducible refine ex_bx ?_
  | with_reducible refine ex_lst ?_
  | with_reducible refine ex1 ?_
  | ((with_reducible refine ex_mul ?_ ?_); (try (first | exact mulOk_r (by omega) (by omega) | exact mulOk_l (by omega) (by omega))))
  | ((with_reducible refine ex_mod ?_ ?_); (try omega))
  | ((with_reducible refine ex_div ?_ ?_); (try omega))
  | ((with_reducible refine ex_cat_l ?_ ?_); (try (simp [sizeLine] <;> omega)))
  | ((with_reducible refine ex_cat_t ?_ ?_); (try (simp [sizeLine] <;> omega)))
  | ((with_reducible refine ex_cat_l0 ?_ ?_); (try (simp [sizeLine] <;> omega)))
  | ((with_reducible refine ex_cat_t0 ?_ ?_); (try (simp [sizeLine] <;> omega)))
  | ((with_reducible refine ex_cat_b ?_ ?_); (try (simp [sizeLine] <;> omega)))
  | ((with_reducible refine ex_cat_s ?_ ?_); (try (simp [sizeLine] <;> omega)))
  | ((with_reducible refine ex_app ?_ ?_); (try (simp [sizeLine] <;> omega)))
  | ((with_reducible refine ex_some1 ?_); refine ⟨_, (by first
    | with_reducible exact it_t_0
    | with_reducible exact it_t_1
    | with_reducible exact it_t_2
    | with_reducible exact it_l_0
    | with_reducible exact it_l_1
    | with_reducible exact it_l_2
    | with_reducible exact it_l (by assumption)
    | with_reducible exact it_t (by assumption)
    | with_reducible exact sl_l_lo
    | with_reducible exact sl_l_hi
    | with_reducible exact sl_t_lo
    | with_reducible exact sl_t_hi
    | with_reducible exact sl_l_mid
    | with_reducible exact sl_t_mid
    | with_reducible exact eq_int
    | with_reducible exact ne_int
    | with_reducible exact pow1012
    | with_reducible exact pow1018
    | with_reducible assumption), ?_⟩)
  | ((fail_if_success (with_reducible refine is_item ?_)); (fail_if_success (with_reducible refine is_min ?_)); (fail_if_success (with_reducible refine is_max ?_)); (fail_if_success (with_reducible refine is_join ?_)); (fail_if_success (with_reducible refine is_index ?_)); (with_reducible refine ex_some1 ?_); refine ⟨_, rfl, ?_⟩)
  | with_reducible exact ⟨rfl, rfl⟩
))
section
variable (k : Nat) (st : Store) {E : Exn → Store → Prop}
noncomputable def allK (F : List (List Bool)) : List Round := (rowsF F.length).map (keyF F)
theorem w_rounds_in {F : List (List Bool)} (hF : Net F) {Q : W → Store → Prop} (h : Q (.bx st.length) (st ++ [⟨.dict (dct (allK F)), .live⟩])) : Wp (callD tbl (k + 5) i_rounds_in [.d (netD F)] st) Q E := by
  rw [c_rounds_in]
  refine wp_fnT rfl rfl ?_
  have h5 := hF.1
  repeat array_get_dec
  refine wp_pure ?_
  repeat array_get_dec
  rw [List.length_map]
  refine wp_is (run_rows_in _ _ h5) ?_
  repeat array_get_dec
  refine for_inv (fun l ρ s => ∃ (pre : List (List Bool)) (o2 o3 o4 o5 : Option W), pre ++ l = rowsF F.length ∧ ρ = [some (.d (netD F)), some (.bx st.length), o2, o3, o4, o5] ∧ s = st ++ [⟨.dict (dct (pre.map (keyF F))), .live⟩]) ?_ ?_ ?_
  · exact ⟨[], none, none, none, none, rfl, rfl, rfl⟩
  · rintro r l ρ s ⟨pre, o2, o3, o4, o5, hp, rfl, rfl⟩
    have hr : r.length = F.length := rowsF_len _ r (by rw [← hp]; simp)
    have R := rd_ok hF hr
    refine ⟨_, rfl, ?_⟩
    repeat array_get_dec
    refine wp_is (run_steps_from _ _ hF hr R.walk) ?_
    repeat array_get_dec
    refine wp_is (show callD tbl (k + 4) i_from_least [W.d (PyData.list (List.map rowD (List.drop (rd F r).snd.fst (orbs F r (rd F r).fst))))] (st ++ [{ val := PyData.dict (dct (List.map (keyF F) pre)), st := CSt.live }]) = .ok (.d (roundD (keyF F r))) (st ++ [{ val := PyData.dict (dct (List.map (keyF F) pre)), st := CSt.live }]) from run_from_least _ _ R.min R.idx (by have := R.walk.le; simp [orbs_len]; omega)) ?_
    repeat array_get_dec
    have hg : (st ++ [⟨.dict (dct (pre.map (keyF F))), .live⟩] : Store)[st.length]? = some ⟨.dict (dct (pre.map (keyF F))), .live⟩ := by simp
    repeat array_get_dec
    refine ⟨_, getM_dct _ _, ?_⟩
    repeat array_get_dec
    refine ⟨_, putD_dct _ _ ?_, ?_⟩
    · have := congrArg List.length hp
      rw [List.length_append, rowsF_size] at this
      have h2 : 2 ^ F.length ≤ 32 := Nat.le_trans (Nat.pow_le_pow_right (by decide) h5) (by decide)
      rw [List.length_map]
      exact Nat.lt_of_lt_of_le (Nat.lt_of_le_of_lt (show pre.length ≤ 32 by omega) (by decide : 32 < 64)) (by decide)
    repeat array_get_dec
    refine ⟨pre ++ [r], _, _, _, _, by rw [← hp]; simp, rfl, ?_⟩
    simp
  · rintro ρ s ⟨pre, o2, o3, o4, o5, hp, rfl, rfl⟩
    repeat array_get_dec
    rw [List.append_nil] at hp
    rw [hp]
    exact h
end
end Law

set_option Elab.async false
set_option linter.all false
set_option maxRecDepth 100000
set_option maxHeartbeats 1000000
namespace Law
open PySem Ev
theorem eq_rows (a b : List Bool) : cmpD .Eq (rowD a) (rowD b) = some (a == b) := by
  show eqD (rowD a) (rowD b) = _
  unfold eqD
  rw [eqv_row, if_pos (by simp [shallow, depth_row])]
/-! ### the dict of rows met -/
def metK (L : List (List Bool)) : List (PyData × PyData) := L.eraseDups.map fun q => (rowD q, .bool true)
theorem fits_met (L : List (List Bool)) (c : List Bool) : keyFits (metK L) (rowD c) = true := by
  unfold keyFits
  rw [keyOk_row, Bool.true_and, List.all_eq_true]
  intro kv hkv
  obtain ⟨j, _, rfl⟩ := List.mem_map.mp hkv
  rfl
theorem any_met (L : List (List Bool)) (c : List Bool) : ((metK L).any fun kv => PyData.eqv kv.1 (rowD c)) = decide (c ∈ L) := by
  unfold metK
  rw [List.any_map]
  have e : ((fun kv : PyData × PyData => PyData.eqv kv.1 (rowD c)) ∘ fun q => (rowD q, PyData.bool true)) = fun z => z == c := by
    funext z
    exact eqv_row z c
  rw [e]
  by_cases h : c ∈ L
  · rw [decide_eq_true h, List.any_eq_true]
    exact ⟨c, List.mem_eraseDups.mpr h, by simp⟩
  · rw [decide_eq_false h, List.any_eq_false]
    intro z hz e2
    rw [eq_of_beq e2] at hz
    exact h (List.mem_eraseDups.mp hz)
theorem put_met (L : List (List Bool)) (c : List Bool) : Ev.putK (metK L) (rowD c) (.bool true) = metK (L ++ [c]) := by
  unfold Ev.putK
  rw [any_met]
  unfold metK
  rw [List.eraseDups_append]
  by_cases h : c ∈ L
  · have e0 : [c].removeAll L = [] := by simp [List.removeAll, h]
    rw [decide_eq_true h, if_pos rfl, e0, List.eraseDups_nil, List.append_nil, List.map_map]
    refine List.map_congr_left fun z hz => ?_
    show (if PyData.eqv (rowD z) (rowD c) = true then _ else _) = _
    split <;> rfl
  · have e0 : [c].removeAll L = [c] := by simp [List.removeAll, h]
    rw [decide_eq_false h, if_neg (by decide), e0, List.map_append]
    rfl
theorem putAll_met : ∀ (M L : List (List Bool)), putAll (metK L) (M.map fun q => .tuple [rowD q, .bool true]) = some (metK (L ++ M))
  | [], L => by rw [List.append_nil]; rfl
  | q :: M, L => by
    show (if keyFits (metK L) (rowD q) then putAll (Ev.putK (metK L) (rowD q) (.bool true)) (M.map fun q => .tuple [rowD q, .bool true]) else none) = _
    rw [fits_met, if_pos rfl, put_met, putAll_met M (L ++ [q]), List.append_assoc]
    rfl
theorem dict_met (M : List (List Bool)) : dictB [.list (M.map fun q => .tuple [rowD q, .bool true])] = some (.dict (metK M)) := by
  show (putAll (metK []) (M.map fun q => .tuple [rowD q, .bool true])).map PyData.dict = _
  rw [putAll_met]
  rfl
theorem notin_met (L : List (List Bool)) (c : List Bool) : cmpD .NotIn (rowD c) (.dict (metK L)) = some (!decide (c ∈ L)) := by
  show (if keyFits (metK L) (rowD c) then some (!(metK L).any fun kv => PyData.eqv kv.1 (rowD c)) else none) = _
  rw [if_pos (fits_met _ _), any_met]
theorem maxD_nats : ∀ (l : List Nat) (a : Nat), W.maxD (.int (a : Nat)) (l.map fun n => PyData.int (n : Nat)) = .int (l.foldl max a : Nat)
  | [], a => rfl
  | n :: l, a => by
    show W.maxD (if W.dataLt (.int (a : Nat)) (.int (n : Nat)) then .int (n : Nat) else .int (a : Nat)) (l.map fun n => PyData.int (n : Nat)) = .int (l.foldl max (max a n) : Nat)
    rw [W.dataLt_int]
    by_cases h : (a : Int) < n
    · rw [decide_eq_true h, if_pos rfl, maxD_nats, show max a n = n by omega]
    · rw [decide_eq_false h, if_neg (by decide), maxD_nats, show max a n = a by omega]
theorem alike_ints (l m : List Int) : allAlike (l.map .int) = true := by
  unfold allAlike
  rw [List.all_eq_true]
  intro a ha
  rw [List.all_eq_true]
  intro b hb
  obtain ⟨p, _, rfl⟩ := List.mem_map.mp ha
  obtain ⟨q, _, rfl⟩ := List.mem_map.mp hb
  simp [W.alike]
theorem max_nats {l : List Nat} (h : l ≠ []) : maxB [.list (l.map fun n => PyData.int (n : Nat))] = some (.int (l.foldl max 0 : Nat)) := by
  obtain ⟨n, m, rfl⟩ := List.exists_cons_of_ne_nil h
  have e : ((n :: m).map fun n => PyData.int (n : Nat)) = ((n :: m).map fun n : Nat => (n : Int)).map .int := by rw [List.map_map]; rfl
  show (if allAlike ((n :: m).map fun n => PyData.int (n : Nat)) && shallow (.list ((n :: m).map fun n => PyData.int (n : Nat))) && !isNone (.int (n : Nat)) then some (W.maxD (.int (n : Nat)) (m.map fun n => PyData.int (n : Nat))) else none) = _
  have hd : shallow (.list ((n :: m).map fun n => PyData.int (n : Nat))) = true := by
    have := depthAll_le (m := 0) (fun n : Nat => PyData.int (n : Nat)) (l := n :: m) fun x _ => by simp [PyData.depth]
    unfold shallow
    rw [depth_listL, decide_eq_true (by omega)]
  rw [hd, e, alike_ints _ [], maxD_nats, List.foldl_cons, show max 0 n = n by omega]
  rfl
noncomputable def topT (F : List (List Bool)) : Nat := ((rowsF F.length).map (tailF F)).foldl max 0
def gardens (F : List (List Bool)) : List (List Bool) := (rowsF F.length).filter fun r => !decide (r ∈ (rowsF F.length).map (stepR F))
def stills (F : List (List Bool)) : List (List Bool) := (rowsF F.length).filter fun r => stepR F r == r
theorem rows_ne (n : Nat) : rowsF n ≠ [] := fun e => by
  have h := rowsF_size n
  rw [e] at h
  have : 0 < 2 ^ n := Nat.pow_pos (by decide)
  simp at h
  omega
end Law

set_option Elab.async false
set_option linter.all false
set_option maxRecDepth 100000
set_option maxHeartbeats 1000000
namespace Law
open PySem Ev
local macro_rules | `(tactic| array_get_dec) => `(tactic| (first
  | with_reducible refine wp_assoc ?_
  | with_reducible refine wp_skip ?_
  | with_reducible refine wp_set ?_
  | with_reducible refine wp_if ?_
  | with_reducible refine wp_ret ?_
  | with_reducible refine wp_drop ?_
  | with_reducible refine wp_asg ?_
  | with_reducible refine wp_par ?_
  | with_reducible refine wp_put ?_
  | with_reducible refine wp_brk ?_
  | with_reducible refine wp_cont ?_
  | with_reducible refine wp_next ?_
  | with_reducible refine wp_for ?_
  | with_reducible refine wp_while ?_
  | with_reducible refine fnk_d ?_
  | with_reducible refine fnk_d1 ?_
  | with_reducible refine fnk_dc ?_
  | with_reducible refine fnk_nx ?_
  | with_reducible refine fnk_nx1 ?_
  | with_reducible refine fnk_b ?_
  | with_reducible refine turnk_nx ?_
  | with_reducible refine turnk_cont ?_
  | with_reducible refine turnk_brk ?_
  | with_reducible refine turnk_ret ?_
  | with_reducible refine loopk_nx ?_
  | with_reducible refine loopk_ret ?_
  | ((with_reducible refine wp_var1 ?_); refine ⟨_, rfl, ?_⟩)
  | with_reducible refine wp_d ?_
  | with_reducible refine wp_fnv ?_
  | with_reducible refine wp_deref ?_
  | with_reducible refine wp_toD ?_
  | with_reducible refine wp_argW ?_
  | with_reducible refine wp_argF ?_
  | with_reducible refine wp_evD0 ?_
  | with_reducible refine wp_evD ?_
  | with_reducible refine wp_evA0 ?_
  | with_reducible refine wp_evA ?_
  | with_reducible refine wp_evR0 ?_
  | with_reducible refine wp_evR ?_
  | with_reducible refine wp_drs0 ?_
  | with_reducible refine wp_drs ?_
  | with_reducible refine wp_tup ?_
  | with_reducible refine wp_nlist ?_
  | with_reducible refine wp_new ?_
  | with_reducible refine wp_box ?_
  | with_reducible refine wp_bin ?_
  | with_reducible refine wp_item ?_
  | with_reducible refine wp_cmp ?_
  | with_reducible refine wp_chain ?_
  | with_reducible refine wp_e1 ?_
  | with_reducible refine wp_sl00 ?_
  | with_reducible refine wp_sl10 ?_
  | with_reducible refine wp_sl01 ?_
  | with_reducible refine wp_sl11 ?_
  | with_reducible refine wp_tOf ?_
  | with_reducible refine wp_tNot ?_
  | with_reducible refine wp_tAnd ?_
  | with_reducible refine wp_tOr ?_
  | with_reducible refine wp_eAnd ?_
  | with_reducible refine wp_eOr ?_
  | with_reducible refine wp_eNot ?_
  | with_reducible refine wp_eIf ?_
  | with_reducible refine wp_call ?_
  | ((with_reducible refine wp_callV1 ?_); refine ⟨_, rfl, ?_⟩)
  | with_reducible refine wp_bi ?_
  | with_reducible refine wp_nbi ?_
  | with_reducible refine wp_meth ?_
  | with_reducible refine wp_mut ?_
  | with_reducible refine wp_iof ?_
  | with_reducible refine wp_range1 ?_
  | with_reducible refine wp_range2 ?_
  | with_reducible refine wp_zip2 ?_
  | with_reducible refine wp_enum ?_
  | with_reducible refine wp_iby ?_
  | with_reducible refine wp_ncomp ?_
  | with_reducible refine wp_elt ?_
  | ((with_reducible refine wp_src1 ?_); refine ⟨_, (by first | with_reducible assumption | exact rfl), ?_⟩)
  | ((with_reducible refine wp_derefB1 ?_); refine ⟨_, ⟨_, (by first | with_reducible exact at0 | with_reducible exact at1 | with_reducible assumption | exact rfl)⟩, ?_⟩)
  | with_reducible refine lit_t ?_
  | with_reducible refine lit_f ?_
  | with_reducible refine lit2_t ?_
  | with_reducible refine litn_t ?_
  | with_reducible refine litn_f ?_
  | with_reducible refine litn2_t ?_
  | with_reducible refine litn2_f ?_
  | with_reducible refine lit2_f ?_
  | ((with_reducible refine ex_cell1 ?_); refine ⟨_, (by first | with_reducible assumption | exact rfl), ?_⟩)
  | with_reducible refine ex_int ?_
  | with_reducible refine ex_bool ?_
  | with_reducible refine ex_dat ?_
  | with_reducible refine ex_bx ?_
  | with_reducible refine ex_lst ?_
  | with_reducible refine ex1 ?_
  | ((with_reducible refine ex_mul ?_ ?_); (try (first | exact mulOk_r (by omega) (by omega) | exact mulOk_l (by omega) (by omega))))
  | ((with_reducible refine ex_mod ?_ ?_); (try omega))
  | ((with_reducible refine ex_div ?_ ?_); (try omega))
  | ((with_reducible refine ex_cat_l ?_ ?_); (try (simp [sizeLine] <;> omega)))
  | ((with_reducible refine ex_cat_t ?_ ?_); (try (simp [sizeLine] <;> omega)))
  | ((with_reducible refine ex_cat_l0 ?_ ?_); (try (simp [sizeLine] <;> omega)))
  | ((with_reducible refine ex_cat_t0 ?_ ?_); (try (simp [sizeLine] <;> omega)))
  | ((with_reducible refine ex_cat_b ?_ ?_); (try (simp [sizeLine] <;> omega)))
  | ((with_reducible refine ex_cat_s ?_ ?_); (try (simp [sizeLine] <;> omega)))
  | ((with_reducible refine ex_app ?_ ?_); (try (simp [sizeLine] <;> omega)))
  | ((with_reducible refine ex_some1 ?_); refine ⟨_, (by first
    | with_reducible exact it_t_0
    | with_reducible exact it_t_1
    | with_reducible exact it_t_2
    | with_reducible exact it_l_0
    | with_reducible exact it_l_1
    | with_reducible exact it_l_2
    | with_reducible exact it_l (by assumption)
    | with_reducible exact it_t (by assumption)
    | with_reducible exact sl_l_lo
    | with_reducible exact sl_l_hi
    | with_reducible exact sl_t_lo
    | with_reducible exact sl_t_hi
    | with_reducible exact sl_l_mid
    | with_reducible exact sl_t_mid
    | with_reducible exact eq_int
    | with_reducible exact ne_int
    | with_reducible exact pow1012
    | with_reducible exact pow1018
    | with_reducible assumption), ?_⟩)
  | ((fail_if_success (with_reducible refine is_item ?_)); (fail_if_success (with_reducible refine is_min ?_)); (fail_if_success (with_reducible refine is_max ?_)); (fail_if_success (with_reducible refine is_join ?_)); (fail_if_success (with_reducible refine is_index ?_)); (with_reducible refine ex_some1 ?_); refine ⟨_, rfl, ?_⟩)
  | with_reducible exact ⟨rfl, rfl⟩
))
section
variable (k : Nat) (st : Store) {E : Exn → Store → Prop}
theorem allK_rounds {F : List (List Bool)} (hF : Net F) : Rounds F.length (allK F) := by
  intro c hc
  obtain ⟨r, hr, rfl⟩ := List.mem_map.mp hc
  have hr := rowsF_len _ r hr
  refine ⟨fun e => ?_, key_mem_len hF hr⟩
  have h1 := key_len hF hr
  rw [e] at h1
  have := per_pos hF hr
  simp at h1
  omega
theorem w_all_rounds {F : List (List Bool)} (hF : Net F) {Q : W → Store → Prop} (h : Q (.d (.tuple ((sr (allK F)).map roundD))) st) : Wp (callD tbl (k + 6) i_all_rounds [.d (netD F)] st) Q E := by
  rw [c_all_rounds]
  refine wp_fn rfl rfl ?_
  repeat array_get_dec
  refine wp_is (run_need_net _ _ hF) ?_
  repeat array_get_dec
  refine w_rounds_in _ _ hF ?_
  have hg : (st ++ [⟨.dict (dct (allK F)), .live⟩] : Store)[st.length]? = some ⟨.dict (dct (allK F)), .live⟩ := by simp
  repeat array_get_dec
  refine ⟨_, sort_dct (allK_rounds hF), ?_⟩
  repeat array_get_dec
  exact h
theorem w_lots_of_rounds {F : List (List Bool)} (hF : Net F) {Q : W → Store → Prop} (h : Q (.d (.tuple ((sr (allK F)).map fun c => .int ((allK F).count c : Nat)))) st) : Wp (callD tbl (k + 6) i_lots_of_rounds [.d (netD F)] st) Q E := by
  rw [c_lots_of_rounds]
  refine wp_fn rfl rfl ?_
  repeat array_get_dec
  refine wp_is (run_need_net _ _ hF) ?_
  repeat array_get_dec
  refine w_rounds_in _ _ hF ?_
  have hg : (st ++ [⟨.dict (dct (allK F)), .live⟩] : Store)[st.length]? = some ⟨.dict (dct (allK F)), .live⟩ := by simp
  repeat array_get_dec
  refine ⟨_, sortIt_dct (allK_rounds hF), ?_⟩
  repeat array_get_dec
  refine wp_map (en := lotD (allK F)) (fun c => .int ((allK F).count c : Nat)) ?_ ?_
  · intro c hc
    refine ⟨_, rfl, ?_⟩
    repeat array_get_dec
  repeat array_get_dec
  exact fnk_d1 h
theorem w_still_rows {F : List (List Bool)} (hF : Net F) {Q : W → Store → Prop} (h : Q (.d (.tuple ((stills F).map rowD))) st) : Wp (callD tbl (k + 6) i_still_rows [.d (netD F)] st) Q E := by
  rw [c_still_rows]
  refine wp_fn rfl rfl ?_
  repeat array_get_dec
  refine wp_is (run_need_net _ _ hF) ?_
  repeat array_get_dec
  rw [List.length_map]
  refine wp_is (run_rows_in _ _ hF.1) ?_
  repeat array_get_dec
  refine wp_filter (en := rowD) (fun r => stepR F r == r) rowD ?_ ?_
  · intro r hr
    have hr := rowsF_len _ r hr
    refine ⟨_, rfl, ?_, ?_⟩
    · repeat array_get_dec
      refine wp_is (run_step_in _ _ hF hr) ?_
      repeat array_get_dec
      refine ⟨_, eq_rows _ _, ?_⟩
      repeat array_get_dec
    · intro _
      repeat array_get_dec
  repeat array_get_dec
  exact fnk_d h
theorem w_garden_rows {F : List (List Bool)} (hF : Net F) {Q : W → Store → Prop} (h : Q (.d (.tuple ((gardens F).map rowD))) st) : Wp (callD tbl (k + 6) i_garden_rows [.d (netD F)] st) Q E := by
  rw [c_garden_rows]
  refine wp_fn rfl rfl ?_
  repeat array_get_dec
  refine wp_is (run_need_net _ _ hF) ?_
  repeat array_get_dec
  rw [List.length_map]
  refine wp_is (run_rows_in _ _ hF.1) ?_
  repeat array_get_dec
  refine wp_map (en := rowD) (fun r => .tuple [rowD (stepR F r), .bool true]) ?_ ?_
  · intro r hr
    have hr := rowsF_len _ r hr
    refine ⟨_, rfl, ?_⟩
    repeat array_get_dec
    refine wp_is (run_step_in _ _ hF hr) ?_
    repeat array_get_dec
  repeat array_get_dec
  have hd := dict_met ((rowsF F.length).map (stepR F))
  rw [List.map_map] at hd
  refine ⟨_, hd, ?_⟩
  repeat array_get_dec
  rw [List.length_map]
  refine wp_is (run_rows_in _ _ hF.1) ?_
  have hg : (st ++ [⟨.dict (metK ((rowsF F.length).map (stepR F))), .live⟩] : Store)[st.length]? = some ⟨.dict (metK ((rowsF F.length).map (stepR F))), .live⟩ := by simp
  repeat array_get_dec
  refine wp_filter (en := rowD) (fun r => !decide (r ∈ (rowsF F.length).map (stepR F))) rowD ?_ ?_
  · intro r hr
    refine ⟨_, rfl, ?_, ?_⟩
    · repeat array_get_dec
      refine ⟨_, notin_met _ _, ?_⟩
      repeat array_get_dec
    · intro _
      repeat array_get_dec
  repeat array_get_dec
  exact fnk_d1 h
theorem w_longest_tail {F : List (List Bool)} (hF : Net F) {Q : W → Store → Prop} (h : Q (.d (.int (topT F : Nat))) st) : Wp (callD tbl (k + 6) i_longest_tail [.d (netD F)] st) Q E := by
  rw [c_longest_tail]
  refine wp_fn rfl rfl ?_
  repeat array_get_dec
  refine wp_is (run_need_net _ _ hF) ?_
  repeat array_get_dec
  rw [List.length_map]
  refine wp_is (run_rows_in _ _ hF.1) ?_
  repeat array_get_dec
  refine wp_map (en := rowD) (fun r => .int (tailF F r : Nat)) ?_ ?_
  · intro r hr
    have hr := rowsF_len _ r hr
    have R := rd_ok hF hr
    refine ⟨_, rfl, ?_⟩
    repeat array_get_dec
    refine wp_is (run_steps_from _ _ hF hr R.walk) ?_
    repeat array_get_dec
  repeat array_get_dec
  have hm := max_nats (l := (rowsF F.length).map (tailF F)) (by
    intro e
    exact rows_ne _ (List.map_eq_nil_iff.mp e))
  rw [List.map_map] at hm
  refine ⟨_, hm, ?_⟩
  repeat array_get_dec
  exact fnk_d h
end
end Law

set_option Elab.async false
set_option linter.all false
set_option maxRecDepth 100000
set_option maxHeartbeats 1000000
namespace Law
open PySem Ev
/-! ### counting -/
theorem sub_len {α : Type} [BEq α] [LawfulBEq α] : ∀ (l m : List α), l.Nodup → (∀ x ∈ l, x ∈ m) → l.length ≤ m.length
  | [], _, _, _ => Nat.zero_le _
  | x :: l, m, hn, hs => by
    obtain ⟨h1, h2⟩ := List.nodup_cons.mp hn
    have hx : x ∈ m := hs x List.mem_cons_self
    have ih := sub_len l (m.erase x) h2 fun y hy => by
      have hne : y ≠ x := fun e => h1 (e ▸ hy)
      exact (List.mem_erase_of_ne hne).2 (hs y (List.mem_cons_of_mem _ hy))
    have e := List.length_erase_of_mem hx
    have hp : 0 < m.length := List.length_pos_of_mem hx
    rw [List.length_cons]
    omega
theorem nodupD {α : Type} [BEq α] [LawfulBEq α] : ∀ (n : Nat) (l : List α), l.length ≤ n → l.eraseDups.Nodup
  | _, [], _ => by rw [List.eraseDups_nil]; exact .nil
  | 0, _ :: _, h => by simp at h
  | n + 1, a :: l, h => by
    rw [List.eraseDups_cons, List.nodup_cons]
    refine ⟨fun hm => ?_, nodupD n _ (Nat.le_trans (List.length_filter_le ..) (by simpa using h))⟩
    rw [List.mem_eraseDups, List.mem_filter] at hm
    simp at hm
theorem dups_nd {α : Type} [BEq α] [LawfulBEq α] (l : List α) : l.eraseDups.Nodup := nodupD _ l (Nat.le_refl _)
theorem dups_mapN {α β : Type} [BEq α] [LawfulBEq α] [BEq β] [LawfulBEq β] (f : α → β) : ∀ (n : Nat) (l : List α), l.length ≤ n → (∀ a ∈ l, ∀ b ∈ l, f a = f b → a = b) → (l.map f).eraseDups = l.eraseDups.map f
  | _, [], _, _ => by rw [List.map_nil, List.eraseDups_nil, List.eraseDups_nil, List.map_nil]
  | 0, _ :: _, h, _ => by simp at h
  | n + 1, a :: l, h, hi => by
    rw [List.map_cons, List.eraseDups_cons, List.eraseDups_cons, List.map_cons, List.filter_map]
    have e : l.filter ((fun b => !b == f a) ∘ f) = l.filter fun b => !b == a := by
      refine List.filter_congr fun b hb => ?_
      show (!(f b == f a)) = !(b == a)
      by_cases c : b = a
      · rw [c, beq_self_eq_true, beq_self_eq_true]
      · rw [beq_false_of_ne c, beq_false_of_ne fun z => c (hi b (List.mem_cons_of_mem _ hb) a List.mem_cons_self z)]
    rw [e, dups_mapN f n _ (Nat.le_trans (List.length_filter_le ..) (by simpa using h)) fun x hx y hy => hi x (List.mem_cons_of_mem _ (List.mem_filter.mp hx).1) y (List.mem_cons_of_mem _ (List.mem_filter.mp hy).1)]
theorem dups_map {α β : Type} [BEq α] [LawfulBEq α] [BEq β] [LawfulBEq β] (f : α → β) (l : List α) (hi : ∀ a ∈ l, ∀ b ∈ l, f a = f b → a = b) : (l.map f).eraseDups = l.eraseDups.map f := dups_mapN f _ l (Nat.le_refl _) hi
theorem dups_perm {α : Type} [BEq α] [LawfulBEq α] {l m : List α} (h : l.Perm m) : l.eraseDups.Perm m.eraseDups :=
  (List.perm_ext_iff_of_nodup (dups_nd l) (dups_nd m)).mpr fun a => by rw [List.mem_eraseDups, List.mem_eraseDups, h.mem_iff]
theorem fold_max : ∀ (l : List Nat) (a : Nat), a ≤ l.foldl max a ∧ (∀ x ∈ l, x ≤ l.foldl max a) ∧ (l.foldl max a = a ∨ l.foldl max a ∈ l)
  | [], a => ⟨Nat.le_refl _, fun x h => (by cases h), .inl rfl⟩
  | n :: l, a => by
    obtain ⟨h1, h2, h3⟩ := fold_max l (max a n)
    refine ⟨Nat.le_trans (Nat.le_max_left _ _) h1, fun x hx => ?_, ?_⟩
    · rcases List.mem_cons.mp hx with e | e
      · rw [e]; exact Nat.le_trans (Nat.le_max_right _ _) h1
      · exact h2 x e
    · rcases h3 with e | e
      · show l.foldl max (max a n) = a ∨ _
        rw [e]
        by_cases hc : a ≤ n
        · rw [Nat.max_eq_right hc]
          refine .inr ?_
          show l.foldl max (max a n) ∈ n :: l
          rw [e, Nat.max_eq_right hc]
          exact List.mem_cons_self
        · rw [Nat.max_eq_left (by omega)]
          exact .inl rfl
      · exact .inr (List.mem_cons_of_mem _ e)
theorem max_of {l : List Nat} {m : Nat} (h : ∀ x ∈ l, x ≤ m) (hm : m ∈ l) : l.foldl max 0 = m := by
  obtain ⟨h1, h2, h3⟩ := fold_max l 0
  have := h2 m hm
  rcases h3 with e | e
  · omega
  · have := h _ e
    omega
/-! ### gardens and tails -/
section
variable {F : List (List Bool)} (hF : Net F)
include hF
theorem step_mem {r : List Bool} : stepR F r ∈ rowsF F.length := rows_all _ _ (by unfold stepR; rw [List.length_map])
theorem mem_gardens {g : List Bool} : g ∈ gardens F ↔ g.length = F.length ∧ ∀ r, r.length = F.length → stepR F r ≠ g := by
  unfold gardens
  rw [List.mem_filter]
  constructor
  · rintro ⟨h1, h2⟩
    refine ⟨rowsF_len _ _ h1, fun r hr e => ?_⟩
    have h3 : g ∉ (rowsF F.length).map (stepR F) := by simpa using h2
    exact h3 (e ▸ List.mem_map_of_mem (rows_all _ r hr))
  · rintro ⟨h1, h2⟩
    refine ⟨rows_all _ g h1, ?_⟩
    have h3 : g ∉ (rowsF F.length).map (stepR F) := fun h => by
      obtain ⟨r, hr, e⟩ := List.mem_map.mp h
      exact h2 r (rowsF_len _ r hr) e
    simpa using h3
theorem garden_count : gardens F ≠ [] ↔ ((rowsF F.length).map (stepR F)).eraseDups.length < (rowsF F.length).length := by
  have hsub : ∀ x ∈ ((rowsF F.length).map (stepR F)).eraseDups, x ∈ rowsF F.length := fun x hx => by
    obtain ⟨r, _, rfl⟩ := List.mem_map.mp (List.mem_eraseDups.mp hx)
    exact step_mem hF
  constructor
  · intro h
    obtain ⟨g, l, e⟩ := List.exists_cons_of_ne_nil h
    have hg : g ∈ gardens F := by rw [e]; exact List.mem_cons_self
    obtain ⟨h1, h2⟩ := (mem_gardens hF).mp hg
    have hgr := rows_all _ g h1
    have h3 := sub_len _ ((rowsF F.length).erase g) (dups_nd _) fun x hx => by
      have hne : x ≠ g := fun e => by
        subst e
        obtain ⟨r, hr, e⟩ := List.mem_map.mp (List.mem_eraseDups.mp hx)
        exact h2 r (rowsF_len _ r hr) e
      exact (List.mem_erase_of_ne hne).2 (hsub x hx)
    have e := List.length_erase_of_mem hgr
    have hp : 0 < (rowsF F.length).length := List.length_pos_of_mem hgr
    omega
  · intro h e
    have h3 := sub_len (rowsF F.length) ((rowsF F.length).map (stepR F)).eraseDups (rows_nd hF.1) fun x hx => by
      refine List.mem_eraseDups.mpr (Classical.byContradiction fun hc => ?_)
      have : x ∈ gardens F := by
        unfold gardens
        rw [List.mem_filter]
        exact ⟨hx, by simpa using hc⟩
      rw [e] at this
      cases this
    omega
theorem walk_one' {r : List Bool} {m t m' t' : Nat} (h1 : t < m) (h2 : orb F r t = orb F r m) (h3 : ∀ i j, i < j → j < m → orb F r i ≠ orb F r j) (h : Walk F r m' t') : m = m' ∧ t = t' := by
  have e : m = m' := by
    rcases Nat.lt_trichotomy m m' with c | c | c
    · exact absurd h2 (h.apart t m h1 c)
    · exact c
    · exact absurd h.again (h3 t' m' h.lt c)
  subst e
  refine ⟨rfl, ?_⟩
  rcases Nat.lt_trichotomy t t' with c | c | c
  · exact absurd (h2.trans h.again.symm) (h3 t t' c h.lt)
  · exact c
  · exact absurd (h.again.trans h2.symm) (h3 t' t c h1)
theorem orb_step (r : List Bool) (i : Nat) : orb F r (i + 1) = orb F (stepR F r) i := by
  have := orb_add F r 1 i
  rw [show i + 1 = 1 + i by omega, ← this]
  rfl
theorem tail_step {r : List Bool} (hr : r.length = F.length) (ht : 0 < tailF F (stepR F r)) : tailF F r = tailF F (stepR F r) + 1 := by
  have hs : (stepR F r).length = F.length := by unfold stepR; rw [List.length_map]
  have R := rd_ok hF hr
  have W := (rd_ok hF hs).walk
  have ht' : 0 < (rd F (stepR F r)).2.1 := ht
  refine (walk_one' hF (m := (rd F (stepR F r)).1 + 1) (t := (rd F (stepR F r)).2.1 + 1) (by have := W.lt; omega) ?_ (fun i j hij hj => ?_) R.walk).2.symm
  · rw [orb_step hF, orb_step hF]
    exact W.again
  · cases i with
    | succ i =>
      obtain ⟨j, rfl⟩ : ∃ j', j = j' + 1 := ⟨j - 1, by omega⟩
      rw [orb_step hF, orb_step hF]
      exact W.apart i j (by omega) (by omega)
    | zero =>
      intro e
      have e2 : stepR F r = orb F (stepR F r) j := by
        have : stepR F (orb F r 0) = stepR F (orb F r j) := by rw [e]
        show stepR F (orb F r 0) = _
        rw [this]
        show orb F r (j + 1) = _
        rw [orb_step hF]
      rcases Nat.lt_or_ge j (rd F (stepR F r)).1 with c | c
      · exact W.apart 0 j hij c e2
      · have : j = (rd F (stepR F r)).1 := by omega
        rw [this, ← W.again] at e2
        exact W.apart 0 _ ht' W.lt e2
theorem garden_tail {g : List Bool} (hg : g ∈ gardens F) : 0 < tailF F g := by
  obtain ⟨h1, h2⟩ := (mem_gardens hF).mp hg
  have W := (rd_ok hF h1).walk
  refine Nat.pos_of_ne_zero fun h => ?_
  have h : (rd F g).2.1 = 0 := h
  have e := W.again
  rw [h] at e
  obtain ⟨m, hm⟩ : ∃ m, (rd F g).1 = m + 1 := ⟨(rd F g).1 - 1, by have := W.lt; omega⟩
  rw [hm] at e
  exact h2 (orb F g m) (orb_len h1 m) e.symm
theorem top_le {r : List Bool} (hr : r.length = F.length) : tailF F r ≤ topT F := (fold_max _ 0).2.1 _ (List.mem_map_of_mem (rows_all _ r hr))
theorem top_at (h : 0 < topT F) : ∃ g ∈ gardens F, tailF F g = topT F := by
  rcases (fold_max ((rowsF F.length).map (tailF F)) 0).2.2 with e | e
  · have e : topT F = 0 := e
    omega
  · obtain ⟨r, hr, e⟩ := List.mem_map.mp e
    have e : tailF F r = topT F := e
    have hl := rowsF_len _ r hr
    refine ⟨r, (mem_gardens hF).mpr ⟨hl, fun q hq e2 => ?_⟩, e⟩
    have h1 := tail_step hF hq (by rw [e2, e]; exact h)
    have h2 := top_le hF hq
    rw [e2, e] at h1
    omega
theorem top_pos : 0 < topT F ↔ gardens F ≠ [] := by
  constructor
  · intro h e
    obtain ⟨g, hg, _⟩ := top_at hF h
    rw [e] at hg
    cases hg
  · intro h
    obtain ⟨g, l, e⟩ := List.exists_cons_of_ne_nil h
    have hg : g ∈ gardens F := by rw [e]; exact List.mem_cons_self
    have h1 := garden_tail hF hg
    have h2 := top_le hF ((mem_gardens hF).mp hg).1
    omega
theorem top_gardens (h : gardens F ≠ []) : ((gardens F).map (tailF F)).foldl max 0 = topT F := by
  obtain ⟨g, hg, e⟩ := top_at hF ((top_pos hF).mpr h)
  refine max_of (fun x hx => ?_) (List.mem_map.mpr ⟨g, hg, e⟩)
  obtain ⟨q, hq, rfl⟩ := List.mem_map.mp hx
  exact top_le hF ((mem_gardens hF).mp hq).1
end
end Law

set_option Elab.async false
set_option linter.all false
set_option maxRecDepth 100000
set_option maxHeartbeats 1000000
namespace Law
open PySem Ev
local macro_rules | `(tactic| array_get_dec) => `(tactic| (first
  | with_reducible refine wp_assoc ?_
  | with_reducible refine wp_skip ?_
  | with_reducible refine wp_set ?_
  | with_reducible refine wp_if ?_
  | with_reducible refine wp_ret ?_
  | with_reducible refine wp_drop ?_
  | with_reducible refine wp_asg ?_
  | with_reducible refine wp_par ?_
  | with_reducible refine wp_put ?_
  | with_reducible refine wp_brk ?_
  | with_reducible refine wp_cont ?_
  | with_reducible refine wp_next ?_
  | with_reducible refine wp_for ?_
  | with_reducible refine wp_while ?_
  | with_reducible refine fnk_d ?_
  | with_reducible refine fnk_d1 ?_
  | with_reducible refine fnk_dc ?_
  | with_reducible refine fnk_nx ?_
  | with_reducible refine fnk_nx1 ?_
  | with_reducible refine fnk_b ?_
  | with_reducible refine turnk_nx ?_
  | with_reducible refine turnk_cont ?_
  | with_reducible refine turnk_brk ?_
  | with_reducible refine turnk_ret ?_
  | with_reducible refine loopk_nx ?_
  | with_reducible refine loopk_ret ?_
  | ((with_reducible refine wp_var1 ?_); refine ⟨_, rfl, ?_⟩)
  | with_reducible refine wp_d ?_
  | with_reducible refine wp_fnv ?_
  | with_reducible refine wp_deref ?_
  | with_reducible refine wp_toD ?_
  | with_reducible refine wp_argW ?_
  | with_reducible refine wp_argF ?_
  | with_reducible refine wp_evD0 ?_
  | with_reducible refine wp_evD ?_
  | with_reducible refine wp_evA0 ?_
  | with_reducible refine wp_evA ?_
  | with_reducible refine wp_evR0 ?_
  | with_reducible refine wp_evR ?_
  | with_reducible refine wp_drs0 ?_
  | with_reducible refine wp_drs ?_
  | with_reducible refine wp_tup ?_
  | with_reducible refine wp_nlist ?_
  | with_reducible refine wp_new ?_
  | with_reducible refine wp_box ?_
  | with_reducible refine wp_bin ?_
  | with_reducible refine wp_item ?_
  | with_reducible refine wp_cmp ?_
  | with_reducible refine wp_chain ?_
  | with_reducible refine wp_e1 ?_
  | with_reducible refine wp_sl00 ?_
  | with_reducible refine wp_sl10 ?_
  | with_reducible refine wp_sl01 ?_
  | with_reducible refine wp_sl11 ?_
  | with_reducible refine wp_tOf ?_
  | with_reducible refine wp_tNot ?_
  | with_reducible refine wp_tAnd ?_
  | with_reducible refine wp_tOr ?_
  | with_reducible refine wp_eAnd ?_
  | with_reducible refine wp_eOr ?_
  | with_reducible refine wp_eNot ?_
  | with_reducible refine wp_eIf ?_
  | with_reducible refine wp_call ?_
  | ((with_reducible refine wp_callV1 ?_); refine ⟨_, rfl, ?_⟩)
  | with_reducible refine wp_bi ?_
  | with_reducible refine wp_nbi ?_
  | with_reducible refine wp_meth ?_
  | with_reducible refine wp_mut ?_
  | with_reducible refine wp_iof ?_
  | with_reducible refine wp_range1 ?_
  | with_reducible refine wp_range2 ?_
  | with_reducible refine wp_zip2 ?_
  | with_reducible refine wp_enum ?_
  | with_reducible refine wp_iby ?_
  | with_reducible refine wp_ncomp ?_
  | with_reducible refine wp_elt ?_
  | ((with_reducible refine wp_src1 ?_); refine ⟨_, (by first | with_reducible assumption | exact rfl), ?_⟩)
  | ((with_reducible refine wp_derefB1 ?_); refine ⟨_, ⟨_, (by first | with_reducible exact at0 | with_reducible exact at1 | with_reducible assumption | exact rfl)⟩, ?_⟩)
  | with_reducible refine lit_t ?_
  | with_reducible refine lit_f ?_
  | with_reducible refine lit2_t ?_
  | with_reducible refine litn_t ?_
  | with_reducible refine litn_f ?_
  | with_reducible refine litn2_t ?_
  | with_reducible refine litn2_f ?_
  | with_reducible refine lit2_f ?_
  | ((with_reducible refine ex_cell1 ?_); refine ⟨_, (by first | with_reducible assumption | exact rfl), ?_⟩)
  | with_reducible refine ex_int ?_
  | with_reducible refine ex_bool ?_
  | with_reducible refine ex_dat ?_
  | with_reducible refine ex_bx ?_
  | with_reducible refine ex_lst ?_
  | with_reducible refine ex1 ?_
  | ((with_reducible refine ex_mul ?_ ?_); (try (first | exact mulOk_r (by omega) (by omega) | exact mulOk_l (by omega) (by omega))))
  | ((with_reducible refine ex_mod ?_ ?_); (try omega))
  | ((with_reducible refine ex_div ?_ ?_); (try omega))
  | ((with_reducible refine ex_cat_l ?_ ?_); (try (simp [sizeLine] <;> omega)))
  | ((with_reducible refine ex_cat_t ?_ ?_); (try (simp [sizeLine] <;> omega)))
  | ((with_reducible refine ex_cat_l0 ?_ ?_); (try (simp [sizeLine] <;> omega)))
  | ((with_reducible refine ex_cat_t0 ?_ ?_); (try (simp [sizeLine] <;> omega)))
  | ((with_reducible refine ex_cat_b ?_ ?_); (try (simp [sizeLine] <;> omega)))
  | ((with_reducible refine ex_cat_s ?_ ?_); (try (simp [sizeLine] <;> omega)))
  | ((with_reducible refine ex_app ?_ ?_); (try (simp [sizeLine] <;> omega)))
  | ((with_reducible refine ex_some1 ?_); refine ⟨_, (by first
    | with_reducible exact it_t_0
    | with_reducible exact it_t_1
    | with_reducible exact it_t_2
    | with_reducible exact it_l_0
    | with_reducible exact it_l_1
    | with_reducible exact it_l_2
    | with_reducible exact it_l (by assumption)
    | with_reducible exact it_t (by assumption)
    | with_reducible exact sl_l_lo
    | with_reducible exact sl_l_hi
    | with_reducible exact sl_t_lo
    | with_reducible exact sl_t_hi
    | with_reducible exact sl_l_mid
    | with_reducible exact sl_t_mid
    | with_reducible exact eq_int
    | with_reducible exact ne_int
    | with_reducible exact pow1012
    | with_reducible exact pow1018
    | with_reducible assumption), ?_⟩)
  | ((fail_if_success (with_reducible refine is_item ?_)); (fail_if_success (with_reducible refine is_min ?_)); (fail_if_success (with_reducible refine is_max ?_)); (fail_if_success (with_reducible refine is_join ?_)); (fail_if_success (with_reducible refine is_index ?_)); (with_reducible refine ex_some1 ?_); refine ⟨_, rfl, ?_⟩)
  | with_reducible exact ⟨rfl, rfl⟩
))
section
variable (k : Nat) (st : Store) {E : Exn → Store → Prop}
theorem max2_nat (a b : Nat) : maxB [.int (a : Nat), .int (b : Nat)] = some (.int (max a b : Nat)) := by
  show some (PyData.int (if (b : Int) > (a : Int) then (b : Int) else (a : Int))) = _
  by_cases h : (b : Int) > a
  · rw [if_pos h, show max a b = b by omega]
  · rw [if_neg h, show max a b = a by omega]
theorem rowsOf_rows : ∀ S : List (List Bool), Ev.rowsOf (S.map rowD) = some (S.map fun r => r.map bI)
  | [] => rfl
  | r :: S => by
    have h : ∀ r : List Bool, Ev.intsOf (r.map bitD) = some (r.map bI) := by
      intro r
      induction r with
      | nil => rfl
      | cons b r ih =>
        show (Ev.intsOf (r.map bitD)).map _ = _
        rw [ih]
        rfl
    show (match Ev.intsOf (r.map bitD) with | some ns => (Ev.rowsOf (S.map rowD)).map (ns :: ·) | none => none) = _
    rw [h r, rowsOf_rows S]
    rfl
theorem lenSet_rows {S : List (List Bool)} (h : S.length < 64) : lenSetB [.list (S.map rowD)] = some (.int (S.eraseDups.length : Nat)) := by
  show (if (S.map rowD).length < 64 then (Ev.rowsOf (S.map rowD)).map (fun ks => PyData.int ks.eraseDups.length) else none) = _
  rw [List.length_map, if_pos h, rowsOf_rows, Option.map_some, dups_map (fun r : List Bool => r.map bI) S fun a _ b _ e => bI_inj e, List.length_map]
theorem ne_rows0 (S : List (List Bool)) : cmpD .NotEq (.tuple (S.map rowD)) (.tuple []) = some (!(S == [])) := by
  have hd : shallow (.tuple (S.map rowD)) = true := by
    have := depth_rows S
    unfold shallow
    rw [depth_tuple, decide_eq_true (by omega)]
  show (eqD (.tuple (S.map rowD)) (.tuple [])).map (!·) = _
  unfold eqD
  rw [hd, if_pos (by simp [shallow, PyData.depth, PyData.depthAll])]
  cases S <;> simp [PyData.eqv, PyData.eqvAll]
theorem eq_rows0 (S : List (List Bool)) : cmpD .Eq (.tuple (S.map rowD)) (.tuple []) = some (S == []) := by
  have hd : shallow (.tuple (S.map rowD)) = true := by
    have := depth_rows S
    unfold shallow
    rw [depth_tuple, decide_eq_true (by omega)]
  show eqD (.tuple (S.map rowD)) (.tuple []) = _
  unfold eqD
  rw [hd, if_pos (by simp [shallow, PyData.depth, PyData.depthAll])]
  cases S <;> simp [PyData.eqv, PyData.eqvAll]
theorem any_mem (S : List (List Bool)) (r : List Bool) : (S.any fun s => s == r) = decide (r ∈ S) := by
  by_cases h : r ∈ S
  · rw [decide_eq_true h, List.any_eq_true.mpr ⟨r, h, by simp⟩]
  · rw [decide_eq_false h, List.any_eq_false.mpr fun z hz e2 => h (by rw [← eq_of_beq e2]; exact hz)]
theorem zip2_map {α : Type} (f g : α → PyData) : ∀ l : List α, zip2 (l.map f) (l.map g) = l.map fun x => .tuple [f x, g x]
  | [] => rfl
  | x :: l => by
    show PyData.tuple [f x, g x] :: zip2 (l.map f) (l.map g) = _
    rw [zip2_map f g l]
    rfl
theorem w__law_right {F : List (List Bool)} (hF : Net F) {Q : W → Store → Prop} (h : Q (.d (.bool true)) st) : Wp (callD tbl (k + 7) i__law_right [.d (netD F)] st) Q E := by
  rw [c__law_right]
  refine wp_fn rfl rfl ?_
  have h5 := hF.1
  repeat array_get_dec
  rw [List.length_map]
  refine wp_is (run__law_rows _ _ F.length h5) ?_
  repeat array_get_dec
  refine wp_pure ?_
  repeat array_get_dec
  refine for_inv (fun l ρ s => ∃ (pre : List (List Bool)) (o1 o9 o10 o11 o12 o13 : Option W), pre ++ l = rowsF F.length ∧ ρ = [some (.d (netD F)), o1, none, none, none, none, some (.d (.list ((rowsF F.length).map rowD))), some (.bx st.length), some (.d (.int (((pre.map (tailF F)).foldl max 0 : Nat)))), o9, o10, o11, o12, o13, none] ∧ s = st ++ [⟨.dict (dct (pre.map (keyF F))), .live⟩]) ?_ ?_ ?_
  · exact ⟨[], none, none, none, none, none, none, rfl, rfl, rfl⟩
  · rintro r l ρ s ⟨pre, o1, o9, o10, o11, o12, o13, hp, rfl, rfl⟩
    have hr : r.length = F.length := rowsF_len _ r (by rw [← hp]; simp)
    have R := rd_ok hF hr
    have hg : (st ++ [⟨.dict (dct (pre.map (keyF F))), .live⟩] : Store)[st.length]? = some ⟨.dict (dct (pre.map (keyF F))), .live⟩ := by simp
    refine ⟨_, rfl, ?_⟩
    repeat array_get_dec
    refine wp_is (run__law_walk _ _ hF hr R.walk) ?_
    have hmin := R.min
    have hidx := R.idx
    repeat array_get_dec
    · exact Nat.le_trans (show _ ≤ 64 by rw [List.length_drop, List.length_drop, List.length_take, List.length_drop, orbs_len]; have := R.walk.le; omega) (by decide)
    repeat array_get_dec
    refine ⟨_, getM_dct _ (keyF F r), ?_⟩
    repeat array_get_dec
    refine ⟨_, putD_dct _ (keyF F r) ?_, ?_⟩
    · have := congrArg List.length hp
      rw [List.length_append, rowsF_size] at this
      have h2 : 2 ^ F.length ≤ 32 := Nat.le_trans (Nat.pow_le_pow_right (by decide) h5) (by decide)
      rw [List.length_map]
      exact Nat.lt_of_lt_of_le (Nat.lt_of_le_of_lt (show pre.length ≤ 32 by omega) (by decide : 32 < 64)) (by decide)
    repeat array_get_dec
    have e8 : (if (((rd F r).2.1 : Nat) : Int) > ((pre.map (tailF F)).foldl max 0 : Nat) then (((rd F r).2.1 : Nat) : Int) else ((pre.map (tailF F)).foldl max 0 : Nat)) = ((((pre ++ [r]).map (tailF F)).foldl max 0 : Nat) : Int) := by
      rw [List.map_append, List.foldl_append]
      exact PyData.int.inj (Option.some.inj (max2_nat ((pre.map (tailF F)).foldl max 0) (tailF F r)))
    rw [e8]
    refine ⟨pre ++ [r], _, _, _, _, _, _, by rw [← hp]; simp, rfl, ?_⟩
    simp
  · rintro ρ s ⟨pre, o1, o9, o10, o11, o12, o13, hp, rfl, rfl⟩
    rw [List.append_nil] at hp
    subst hp
    have hg : (st ++ [⟨.dict (dct ((rowsF F.length).map (keyF F))), .live⟩] : Store)[st.length]? = some ⟨.dict (dct ((rowsF F.length).map (keyF F))), .live⟩ := by simp
    repeat array_get_dec
    refine wp_map (en := rowD) (fun r => rowD (stepR F r)) ?_ ?_
    · intro r hr
      have hr := rowsF_len _ r hr
      refine ⟨_, rfl, ?_⟩
      repeat array_get_dec
      refine wp_is (run__law_step _ _ hF hr) ?_
      repeat array_get_dec
    repeat array_get_dec
    dsimp only
    rw [zip2_map]
    refine wp_filter (en := fun r => .tuple [rowD r, rowD (stepR F r)]) (fun r => stepR F r == r) rowD ?_ ?_
    · intro r hr
      refine ⟨_, rfl, ?_, ?_⟩
      · repeat array_get_dec
        refine ⟨_, eq_rows _ _, ?_⟩
        repeat array_get_dec
        exact ⟨BEq.comm, rfl⟩
      · intro _
        repeat array_get_dec
    repeat array_get_dec
    refine wp_filter (en := rowD) (fun r => !decide (r ∈ (rowsF F.length).map (stepR F))) rowD ?_ ?_
    · intro r hr
      refine ⟨_, rfl, ?_, ?_⟩
      · repeat array_get_dec
        have hn := notin_rows r ((rowsF F.length).map (stepR F))
        rw [List.map_map, any_mem] at hn
        refine ⟨_, hn, ?_⟩
        repeat array_get_dec
      · intro _
        repeat array_get_dec
    repeat array_get_dec
    simp only [unlock, List.append_nil]
    refine w_all_rounds _ _ hF ?_
    repeat array_get_dec
    refine w_lots_of_rounds _ _ hF ?_
    repeat array_get_dec
    refine w_still_rows _ _ hF ?_
    repeat array_get_dec
    refine w_garden_rows _ _ hF ?_
    repeat array_get_dec
    refine w_longest_tail _ _ hF ?_
    repeat array_get_dec
    have hs := sort_dct (allK_rounds hF)
    unfold allK at hs
    refine ⟨_, hs, ?_⟩
    repeat array_get_dec
    refine wp_map (en := roundD) (fun c => .int ((allK F).count c : Nat)) ?_ ?_
    · intro c hc
      have hc : c ∈ allK F := List.mem_eraseDups.mp ((sr_perm _).mem_iff.mp hc)
      refine ⟨_, rfl, ?_⟩
      repeat array_get_dec
      refine ⟨_, itemD_dct _ _ hc, ?_⟩
      repeat array_get_dec
    repeat array_get_dec
    refine w_like _ (n := 4) rfl ?_ ?_ (by omega) ?_
    · have h1 : ∀ l : List Round, niceAll (l.map roundD) = true := fun l => by
        induction l with
        | nil => simp [niceAll]
        | cons c l ih => rw [List.map_cons, niceAll, ih, roundD, nice, nice_rows]; rfl
      have h2 : ∀ (l : List Round), niceAll (l.map fun c => PyData.int ((allK F).count c : Nat)) = true := fun l => by
        induction l with
        | nil => simp [niceAll]
        | cons c l ih => rw [List.map_cons, niceAll, ih]; simp [nice]
      simp only [nice, niceAll, h1, h2, nice_rows, Bool.and_self]
    · have h1 : ∀ l : List Round, PyData.depthAll (l.map roundD) ≤ 2 := fun l => depthAll_le roundD fun c _ => depth_round c
      have h2 : ∀ (l : List Round), PyData.depthAll (l.map fun c => PyData.int ((allK F).count c : Nat)) ≤ 0 := fun l => depthAll_le (fun c : Round => PyData.int ((allK F).count c : Nat)) fun c _ => by simp [PyData.depth]
      have a1 := h1 (sr (allK F))
      have a2 := h2 (sr (allK F))
      have a3 := depth_rows (stills F)
      have a4 := depth_rows (gardens F)
      rw [depth_listL]
      simp only [PyData.depthAll, depth_tuple, PyData.depth]
      omega
    repeat array_get_dec
    refine ⟨_, ne_rows0 (gardens F), ?_⟩
    repeat array_get_dec
    have hl := lenSet_rows (S := (rowsF F.length).map (stepR F)) (by
      rw [List.length_map, rowsF_size]
      exact Nat.lt_of_le_of_lt (Nat.pow_le_pow_right (by decide) h5) (by decide))
    rw [List.map_map] at hl
    refine ⟨_, hl, ?_⟩
    repeat array_get_dec
    have hgc : (!(gardens F == [])) = decide ((((rowsF F.length).map (stepR F)).eraseDups.length : Int) < (((rowsF F.length).map fun r => rowD (stepR F r)).length : Nat)) := by
      rw [List.length_map]
      by_cases c : gardens F = []
      · rw [c, decide_eq_false]
        · rfl
        · intro e
          exact (garden_count hF).mpr (by omega) c
      · rw [beq_false_of_ne c, decide_eq_true]
        · rfl
        · have := (garden_count hF).mp c
          omega
    refine ⟨fun e => ?_, fun _ => ?_⟩
    · exfalso
      rw [← hgc] at e
      simp [PyData.eqv] at e
    repeat array_get_dec
    refine ⟨_, ne_rows0 (gardens F), ?_⟩
    repeat array_get_dec
    have hgt : (decide ((0 : Int) < (((rowsF F.length).map (tailF F)).foldl max 0 : Nat))) = (!(gardens F == [])) := by
      by_cases c : gardens F = []
      · rw [c, decide_eq_false]
        · rfl
        · intro e
          exact (top_pos hF).mp (by unfold topT; omega) c
      · rw [beq_false_of_ne c, decide_eq_true]
        · rfl
        · have := (top_pos hF).mpr c
          unfold topT at this
          omega
    refine ⟨fun e => ?_, fun _ => ?_⟩
    · exfalso
      rw [hgt] at e
      simp [PyData.eqv] at e
    repeat array_get_dec
    refine ⟨_, eq_rows0 (gardens F), ?_⟩
    repeat array_get_dec
    refine ⟨fun _ => fnk_d1 h, fun hne => ?_⟩
    have hne : gardens F ≠ [] := fun e => by rw [e] at hne; simp at hne
    repeat array_get_dec
    refine wp_map (en := rowD) (fun r => .int (tailF F r : Nat)) ?_ ?_
    · intro r hr
      have hr := ((mem_gardens hF).mp hr).1
      have R := rd_ok hF hr
      refine ⟨_, rfl, ?_⟩
      repeat array_get_dec
      refine wp_is (run_tail_length _ _ hF hr R.walk) ?_
      repeat array_get_dec
    repeat array_get_dec
    have hm := max_nats (l := (gardens F).map (tailF F)) (by
      intro e
      exact hne (List.map_eq_nil_iff.mp e))
    rw [List.map_map, top_gardens hF hne] at hm
    refine ⟨_, hm, ?_⟩
    repeat array_get_dec
    have e1 : decide (((topT F : Nat) : Int) = (((rowsF F.length).map (tailF F)).foldl max 0 : Nat)) = true := decide_eq_true rfl
    rw [e1]
    exact fnk_d1 h
end
end Law

set_option Elab.async false
set_option linter.all false
set_option maxRecDepth 100000
set_option maxHeartbeats 1000000
namespace Law
open PySem Ev
/-! ### nets that are alike -/
structure Conj (F G : List (List Bool)) (φ : List Bool → List Bool) : Prop where
  nF : Net F
  nG : Net G
  len : G.length = F.length
  out : ∀ r, r.length = F.length → (φ r).length = F.length
  inj : ∀ r s, r.length = F.length → s.length = F.length → φ r = φ s → r = s
  step : ∀ r, r.length = F.length → φ (stepR G r) = stepR F (φ r)
theorem fold_perm {l m : List Nat} (h : l.Perm m) : l.foldl max 0 = m.foldl max 0 := by
  have one : ∀ {l m : List Nat}, l.Perm m → l.foldl max 0 ≤ m.foldl max 0 := fun {l m} h => by
    rcases (fold_max l 0).2.2 with e | e
    · rw [e]; exact Nat.zero_le _
    · exact (fold_max m 0).2.1 _ (h.mem_iff.mp e)
  exact Nat.le_antisymm (one h) (one h.symm)
theorem count_on {α β : Type} [BEq α] [LawfulBEq α] [BEq β] [LawfulBEq β] (ψ : α → β) (c : α) : ∀ (L : List α), (∀ a ∈ L, ψ a = ψ c → a = c) → (L.map ψ).count (ψ c) = L.count c
  | [], _ => rfl
  | a :: L, h => by
    rw [List.map_cons, List.count_cons, List.count_cons, count_on ψ c L fun b hb => h b (List.mem_cons_of_mem _ hb)]
    congr 1
    by_cases e : a = c
    · rw [e, beq_self_eq_true, beq_self_eq_true]
    · rw [beq_false_of_ne e, beq_false_of_ne fun z => e (h a List.mem_cons_self z)]
namespace Conj
variable {F G : List (List Bool)} {φ : List Bool → List Bool} (C : Conj F G φ)
include C
theorem orb_to {r : List Bool} (hr : r.length = F.length) (i : Nat) : φ (orb G r i) = orb F (φ r) i := by
  induction i with
  | zero => rfl
  | succ i ih =>
    show φ (stepR G (orb G r i)) = stepR F (orb F (φ r) i)
    rw [C.step _ ((orb_len (F := G) (by rw [hr, C.len]) i).trans C.len), ih]
theorem orb_inj {r s : List Bool} (hr : r.length = F.length) (hs : s.length = F.length) {i j : Nat} : orb G r i = orb G s j ↔ orb F (φ r) i = orb F (φ s) j := by
  rw [← C.orb_to hr, ← C.orb_to hs]
  refine ⟨fun e => by rw [e], fun e => C.inj _ _ ?_ ?_ e⟩
  · exact (orb_len (F := G) (by rw [hr, C.len]) i).trans C.len
  · exact (orb_len (F := G) (by rw [hs, C.len]) j).trans C.len
theorem walk {r : List Bool} (hr : r.length = F.length) {m t : Nat} (h : Walk G r m t) : Walk F (φ r) m t :=
  ⟨h.lt, h.le, (C.orb_inj hr hr).mp h.again, fun i j h1 h2 e => h.apart i j h1 h2 ((C.orb_inj hr hr).mpr e)⟩
theorem rd_to {r : List Bool} (hr : r.length = F.length) : tailF F (φ r) = tailF G r ∧ perF F (φ r) = perF G r := by
  have W := C.walk hr (rd_ok C.nG (show r.length = G.length by rw [hr, C.len])).walk
  have W' := (rd_ok C.nF (C.out r hr)).walk
  obtain ⟨h1, h2⟩ := walk_one W' W
  exact ⟨h2, by unfold perF; rw [h1, h2]⟩
theorem meet {r s : List Bool} (hr : r.length = F.length) (hs : s.length = F.length) : Meet G r s ↔ Meet F (φ r) (φ s) :=
  ⟨fun ⟨i, j, e⟩ => ⟨i, j, (C.orb_inj hr hs).mp e⟩, fun ⟨i, j, e⟩ => ⟨i, j, (C.orb_inj hr hs).mpr e⟩⟩
theorem perm : ((rowsF F.length).map φ).Perm (rowsF F.length) := by
  have hn : ((rowsF F.length).map φ).Nodup := by
    refine List.pairwise_map.mpr ((rows_nd C.nF.1).imp_of_mem fun {a b} ha hb h e => h (C.inj _ _ (rowsF_len _ _ ha) (rowsF_len _ _ hb) e))
  have hs : ∀ x ∈ (rowsF F.length).map φ, x ∈ rowsF F.length := fun x hx => by
    obtain ⟨r, hr, rfl⟩ := List.mem_map.mp hx
    exact rows_all _ _ (C.out r (rowsF_len _ _ hr))
  refine (List.perm_ext_iff_of_nodup hn (rows_nd C.nF.1)).mpr fun x => ⟨hs x, fun hx => Classical.byContradiction fun hc => ?_⟩
  have h := sub_len ((rowsF F.length).map φ) ((rowsF F.length).erase x) hn fun y hy => (List.mem_erase_of_ne (show y ≠ x from fun e => hc (by rw [← e]; exact hy))).2 (hs y hy)
  have e := List.length_erase_of_mem hx
  have hp : 0 < (rowsF F.length).length := List.length_pos_of_mem hx
  rw [List.length_map] at h
  omega
theorem onto {q : List Bool} (hq : q.length = F.length) : ∃ r, r.length = F.length ∧ φ r = q := by
  obtain ⟨r, hr, e⟩ := List.mem_map.mp (C.perm.mem_iff.mpr (rows_all _ q hq))
  exact ⟨r, rowsF_len _ _ hr, e⟩
theorem top : topT G = topT F := by
  unfold topT
  rw [C.len, ← fold_perm (C.perm.map (tailF F)), List.map_map]
  congr 1
  refine List.map_congr_left fun r hr => (C.rd_to (rowsF_len _ r hr)).1.symm
theorem filter_len {p q : List Bool → Bool} (h : ∀ r, r.length = F.length → p r = q (φ r)) : ((rowsF F.length).filter p).length = ((rowsF F.length).filter q).length := by
  rw [← (C.perm.filter q).length_eq, List.filter_map, List.length_map]
  congr 1
  exact List.filter_congr fun r hr => h r (rowsF_len _ r hr)
theorem gardens_len : (gardens G).length = (gardens F).length := by
  unfold gardens
  rw [C.len]
  refine C.filter_len fun r hr => ?_
  congr 1
  refine decide_eq_decide.mpr ⟨fun h => ?_, fun h => ?_⟩
  · obtain ⟨q, hq, e⟩ := List.mem_map.mp h
    have hq := rowsF_len _ q hq
    exact List.mem_map.mpr ⟨φ q, rows_all _ _ (C.out q hq), by rw [← C.step q hq, e]⟩
  · obtain ⟨q, hq, e⟩ := List.mem_map.mp h
    obtain ⟨s, hs, rfl⟩ := C.onto (rowsF_len _ q hq)
    rw [← C.step s hs] at e
    exact List.mem_map.mpr ⟨s, rows_all _ _ hs, C.inj _ _ (by unfold stepR; rw [List.length_map, C.len]) hr e⟩
theorem stills_len : (stills G).length = (stills F).length := by
  unfold stills
  rw [C.len]
  refine C.filter_len fun r hr => ?_
  rw [← C.step r hr]
  by_cases h : stepR G r = r
  · rw [h, beq_self_eq_true, beq_self_eq_true]
  · rw [beq_false_of_ne h, beq_false_of_ne fun e => h (C.inj _ _ (by unfold stepR; rw [List.length_map, C.len]) hr e)]
noncomputable def to (F : List (List Bool)) (φ : List Bool → List Bool) (c : Round) : Round := keyF F (φ (c.head?.getD []))
theorem key_to {r : List Bool} (hr : r.length = F.length) : Conj.to F φ (keyF G r) = keyF F (φ r) := by
  have hg : r.length = G.length := by rw [hr, C.len]
  unfold Conj.to
  rw [key_head C.nG hg, Option.getD_some, least_at C.nG hg]
  have hl : (orb G r (tailF G r + (rd G r).2.2.2)).length = F.length := (orb_len hg _).trans C.len
  refine (key_meet C.nF (C.out _ hl) (C.out r hr)).mpr ?_
  rw [C.orb_to hr]
  exact ⟨0, _, rfl⟩
theorem all_to : ((allK G).map (Conj.to F φ)).Perm (allK F) := by
  have e : (allK G).map (Conj.to F φ) = ((rowsF F.length).map φ).map (keyF F) := by
    unfold allK
    rw [C.len, List.map_map, List.map_map]
    exact List.map_congr_left fun r hr => C.key_to (rowsF_len _ r hr)
  rw [e]
  exact C.perm.map _
theorem to_inj : ∀ a ∈ allK G, ∀ b ∈ allK G, Conj.to F φ a = Conj.to F φ b → a = b := by
  intro a ha b hb e
  obtain ⟨r, hr, rfl⟩ := List.mem_map.mp ha
  obtain ⟨s, hs, rfl⟩ := List.mem_map.mp hb
  rw [C.len] at hr hs
  have hr := rowsF_len _ r hr
  have hs := rowsF_len _ s hs
  rw [C.key_to hr, C.key_to hs, key_meet C.nF (C.out r hr) (C.out s hs), ← C.meet hr hs] at e
  exact (key_meet C.nG (by rw [hr, C.len]) (by rw [hs, C.len])).mpr e
theorem to_len {c : Round} (hc : c ∈ allK G) : (Conj.to F φ c).length = c.length := by
  obtain ⟨r, hr, rfl⟩ := List.mem_map.mp hc
  rw [C.len] at hr
  have hr := rowsF_len _ r hr
  rw [C.key_to hr, key_len C.nF (C.out r hr), key_len C.nG (by rw [hr, C.len]), (C.rd_to hr).2]
theorem lens : ((sr (allK G)).map List.length).Perm ((sr (allK F)).map List.length) := by
  refine ((sr_perm _).map _).trans (List.Perm.trans ?_ ((sr_perm _).map _).symm)
  have e : (allK G).eraseDups.map List.length = ((allK G).map (Conj.to F φ)).eraseDups.map List.length := by
    rw [dups_map _ _ C.to_inj, List.map_map]
    exact List.map_congr_left fun c hc => (C.to_len (List.mem_eraseDups.mp hc)).symm
  rw [e]
  exact (dups_perm C.all_to).map _
theorem lots : ((sr (allK G)).map fun c => (allK G).count c).Perm ((sr (allK F)).map fun c => (allK F).count c) := by
  refine ((sr_perm _).map _).trans (List.Perm.trans ?_ ((sr_perm _).map _).symm)
  have e : ((allK G).eraseDups.map fun c => (allK G).count c) = ((allK G).map (Conj.to F φ)).eraseDups.map fun c => (allK F).count c := by
    rw [dups_map _ _ C.to_inj, List.map_map]
    refine List.map_congr_left fun c hc => ?_
    have hc := List.mem_eraseDups.mp hc
    show _ = (allK F).count (Conj.to F φ c)
    rw [← C.all_to.count_eq, count_on _ c _ fun a ha e => C.to_inj a ha c hc e]
  rw [e]
  exact (dups_perm C.all_to).map _
end Conj
end Law

set_option Elab.async false
set_option linter.all false
set_option maxRecDepth 100000
set_option maxHeartbeats 1000000
namespace Law
open PySem Ev
/-! ### a net with its signs in another order -/
def phi (n : Nat) (O : List Nat) (r : List Bool) : List Bool := (List.range n).map fun own => r.getD (O.idxOf own) false
def turnF (F : List (List Bool)) (O : List Nat) (o : Nat) : List Bool := (rowsF F.length).map fun r => (F.getD o []).getD (num (phi F.length O r)) false
def turn (F : List (List Bool)) (O : List Nat) : List (List Bool) := O.map (turnF F O)
theorem rows_at {n : Nat} (hn : n ≤ 5) {r : List Bool} (hr : r.length = n) : (rowsF n)[num r]? = some r := by
  have h : ∀ n, n ≤ 5 → ((rowsF n).all fun r => (rowsF n)[num r]? == some r) = true := fun n hn =>
    five (P := fun n => ((rowsF n).all fun r => (rowsF n)[num r]? == some r) = true) (by decide +kernel) (by decide +kernel) (by decide +kernel) (by decide +kernel) (by decide +kernel) (by decide +kernel) hn
  exact eq_of_beq (List.all_eq_true.mp (h n hn) r (rows_all n r hr))
theorem phi_len (n : Nat) (O : List Nat) (r : List Bool) : (phi n O r).length = n := by
  unfold phi
  rw [List.length_map, List.length_range]
theorem phi_at (n : Nat) (O : List Nat) (r : List Bool) (i : Nat) (h : i < (phi n O r).length) : (phi n O r)[i] = r.getD (O.idxOf i) false := by
  show ((List.range n).map fun own => r.getD (O.idxOf own) false)[i]'(by rw [phi_len] at h; rw [List.length_map, List.length_range]; exact h) = _
  rw [List.getElem_map, List.getElem_range]
section
variable {F : List (List Bool)} {O : List Nat} (hF : Net F) (hO : O.Perm (List.range F.length))
include hF hO
theorem turn_len : (turn F O).length = F.length := by
  unfold turn
  rw [List.length_map, hO.length_eq, List.length_range]
theorem turn_net : Net (turn F O) := by
  have hl := turn_len hF hO
  refine ⟨by rw [hl]; exact hF.1, fun f hf => ?_⟩
  obtain ⟨o, _, rfl⟩ := List.mem_map.mp hf
  unfold turnF
  rw [List.length_map, rowsF_size, hl]
theorem turn_step {r : List Bool} (hr : r.length = F.length) : stepR (turn F O) r = O.map fun o => (stepR F (phi F.length O r)).getD o false := by
  unfold turn
  show (O.map (turnF F O)).map _ = _
  rw [List.map_map]
  refine List.map_congr_left fun o ho => ?_
  have ho : o < F.length := List.mem_range.mp (hO.mem_iff.mp ho)
  show (turnF F O o).getD (num r) false = _
  have h1 := rows_at hF.1 hr
  unfold turnF stepR
  rw [List.getD_eq_getElem?_getD, List.getElem?_map, h1, Option.map_some, Option.getD_some, List.getD_eq_getElem?_getD (l := List.map _ _), List.getElem?_map, List.getElem?_eq_getElem ho, Option.map_some, Option.getD_some]
  rw [List.getD_eq_getElem?_getD (l := F), List.getElem?_eq_getElem ho, Option.getD_some]
theorem turn_conj : Conj F (turn F O) (phi F.length O) where
  nF := hF
  nG := turn_net hF hO
  len := turn_len hF hO
  out := fun r _ => phi_len ..
  inj := fun r s hr hs e => by
    have hn : O.Nodup := hO.nodup_iff.mpr List.nodup_range
    have hl : O.length = F.length := by rw [hO.length_eq, List.length_range]
    refine List.ext_getElem (by rw [hr, hs]) fun i h1 h2 => ?_
    have hi : i < O.length := by omega
    have ho : O[i] < F.length := List.mem_range.mp (hO.mem_iff.mp (List.getElem_mem hi))
    have h3 : (phi F.length O r)[O[i]]? = (phi F.length O s)[O[i]]? := by rw [e]
    unfold phi at h3
    rw [List.getElem?_map, List.getElem?_map, List.getElem?_range ho, Option.map_some, Option.map_some, hn.idxOf_getElem i hi, Option.some.injEq, List.getD_eq_getElem?_getD, List.getD_eq_getElem?_getD, List.getElem?_eq_getElem h1, List.getElem?_eq_getElem h2] at h3
    exact h3
  step := fun r hr => by
    have hl : O.length = F.length := by rw [hO.length_eq, List.length_range]
    have hs : (stepR F (phi F.length O r)).length = F.length := by unfold stepR; rw [List.length_map]
    rw [turn_step hF hO hr]
    refine List.ext_getElem (by rw [phi_len, hs]) fun i h1 h2 => ?_
    have hi : i < F.length := by omega
    have hm : i ∈ O := hO.mem_iff.mpr (List.mem_range.mpr hi)
    have hx := List.idxOf_lt_length_of_mem hm
    rw [phi_at, List.getD_eq_getElem?_getD, List.getElem?_map, List.getElem?_eq_getElem hx, Option.map_some, Option.getD_some, List.getElem_idxOf hx, List.getD_eq_getElem?_getD, List.getElem?_eq_getElem h2]
    rfl
end
end Law

set_option Elab.async false
set_option linter.all false
set_option maxRecDepth 100000
set_option maxHeartbeats 1000000
namespace Law
open PySem Ev
/-! ### lists of numbers, sorted -/
abbrev natD (i : Nat) : PyData := .int (i : Nat)
def nsort (l : List Nat) : List Nat := l.mergeSort fun a b => decide (a ≤ b)
theorem sort_natsL (l : List Nat) : sortL (l.map natD) = (nsort l).map natD := by
  unfold sortL nsort
  rw [W.sort_maps (r := fun a b : Nat => decide (a ≤ b)) natD fun a _ b _ => ?_]
  rw [le_ints]
  exact decide_eq_decide.mpr (by omega)
theorem nsort_perm {l m : List Nat} (hp : l.Perm m) : nsort l = nsort m := by
  unfold nsort
  have pw : ∀ l : List Nat, (l.mergeSort fun a b => decide (a ≤ b)).Pairwise fun a b => decide (a ≤ b) = true := fun l =>
    List.pairwise_mergeSort (le := fun a b : Nat => decide (a ≤ b)) (fun a b c h1 h2 => decide_eq_true (Nat.le_trans (of_decide_eq_true h1) (of_decide_eq_true h2))) (fun a b => by
      rcases Nat.le_total a b with h | h
      · simp [h]
      · simp [h]) l
  exact List.Perm.eq_of_pairwise (le := fun a b => decide (a ≤ b) = true) (fun a b _ _ h1 h2 => Nat.le_antisymm (of_decide_eq_true h1) (of_decide_eq_true h2)) (pw l) (pw m) ((List.mergeSort_perm _ _).trans (hp.trans (List.mergeSort_perm _ _).symm))
theorem srt_nats (l : List Nat) : srtOk (l.map natD) = true := srt_of natD (fun x _ y _ => by simp [W.alike]) (fun x _ => by simp [PyData.depth]) (.inr fun x _ => ⟨rfl, rfl⟩)
theorem sortB_nats (l : List Nat) : sortB [.list (l.map natD)] = some (.list ((nsort l).map natD)) := by
  show (if srtOk (l.map natD) then some (PyData.list (sortL (l.map natD))) else none) = _
  rw [srt_nats, sort_natsL]
  rfl
theorem sortB_natsT (l : List Nat) : sortB [.tuple (l.map natD)] = some (.list ((nsort l).map natD)) := by
  show (if srtOk (l.map natD) then some (PyData.list (sortL (l.map natD))) else none) = _
  rw [srt_nats, sort_natsL]
  rfl
theorem nice_nats (l : List Nat) : niceAll (l.map natD) = true := by
  induction l with
  | nil => simp [niceAll]
  | cons c l ih => rw [List.map_cons, niceAll, ih]; simp [nice]
theorem depth_nats (l : List Nat) : PyData.depthAll (l.map natD) = 0 := Nat.le_zero.mp (depthAll_le natD fun x _ => by simp [PyData.depth])
end Law

set_option Elab.async false
set_option linter.all false
set_option maxRecDepth 100000
set_option maxHeartbeats 1000000
namespace Law
open PySem Ev
local macro_rules | `(tactic| array_get_dec) => `(tactic| (first
  | with_reducible refine wp_assoc ?_
  | with_reducible refine wp_skip ?_
  | with_reducible refine wp_set ?_
  | with_reducible refine wp_if ?_
  | with_reducible refine wp_ret ?_
  | with_reducible refine wp_drop ?_
  | with_reducible refine wp_asg ?_
  | with_reducible refine wp_par ?_
  | with_reducible refine wp_put ?_
  | with_reducible refine wp_brk ?_
  | with_reducible refine wp_cont ?_
  | with_reducible refine wp_next ?_
  | with_reducible refine wp_for ?_
  | with_reducible refine wp_while ?_
  | with_reducible refine fnk_d ?_
  | with_reducible refine fnk_d1 ?_
  | with_reducible refine fnk_dc ?_
  | with_reducible refine fnk_nx ?_
  | with_reducible refine fnk_nx1 ?_
  | with_reducible refine fnk_b ?_
  | with_reducible refine turnk_nx ?_
  | with_reducible refine turnk_cont ?_
  | with_reducible refine turnk_brk ?_
  | with_reducible refine turnk_ret ?_
  | with_reducible refine loopk_nx ?_
  | with_reducible refine loopk_ret ?_
  | ((with_reducible refine wp_var1 ?_); refine ⟨_, rfl, ?_⟩)
  | with_reducible refine wp_d ?_
  | with_reducible refine wp_fnv ?_
  | with_reducible refine wp_deref ?_
  | with_reducible refine wp_toD ?_
  | with_reducible refine wp_argW ?_
  | with_reducible refine wp_argF ?_
  | with_reducible refine wp_evD0 ?_
  | with_reducible refine wp_evD ?_
  | with_reducible refine wp_evA0 ?_
  | with_reducible refine wp_evA ?_
  | with_reducible refine wp_evR0 ?_
  | with_reducible refine wp_evR ?_
  | with_reducible refine wp_drs0 ?_
  | with_reducible refine wp_drs ?_
  | with_reducible refine wp_tup ?_
  | with_reducible refine wp_nlist ?_
  | with_reducible refine wp_new ?_
  | with_reducible refine wp_box ?_
  | with_reducible refine wp_bin ?_
  | with_reducible refine wp_item ?_
  | with_reducible refine wp_cmp ?_
  | with_reducible refine wp_chain ?_
  | with_reducible refine wp_e1 ?_
  | with_reducible refine wp_sl00 ?_
  | with_reducible refine wp_sl10 ?_
  | with_reducible refine wp_sl01 ?_
  | with_reducible refine wp_sl11 ?_
  | with_reducible refine wp_tOf ?_
  | with_reducible refine wp_tNot ?_
  | with_reducible refine wp_tAnd ?_
  | with_reducible refine wp_tOr ?_
  | with_reducible refine wp_eAnd ?_
  | with_reducible refine wp_eOr ?_
  | with_reducible refine wp_eNot ?_
  | with_reducible refine wp_eIf ?_
  | with_reducible refine wp_call ?_
  | ((with_reducible refine wp_callV1 ?_); refine ⟨_, rfl, ?_⟩)
  | with_reducible refine wp_bi ?_
  | with_reducible refine wp_nbi ?_
  | with_reducible refine wp_meth ?_
  | with_reducible refine wp_mut ?_
  | with_reducible refine wp_iof ?_
  | with_reducible refine wp_range1 ?_
  | with_reducible refine wp_range2 ?_
  | with_reducible refine wp_zip2 ?_
  | with_reducible refine wp_enum ?_
  | with_reducible refine wp_iby ?_
  | with_reducible refine wp_ncomp ?_
  | with_reducible refine wp_elt ?_
  | ((with_reducible refine wp_src1 ?_); refine ⟨_, (by first | with_reducible assumption | exact rfl), ?_⟩)
  | ((with_reducible refine wp_derefB1 ?_); refine ⟨_, ⟨_, (by first | with_reducible exact at0 | with_reducible exact at1 | with_reducible assumption | exact rfl)⟩, ?_⟩)
  | with_reducible refine lit_t ?_
  | with_reducible refine lit_f ?_
  | with_reducible refine lit2_t ?_
  | with_reducible refine litn_t ?_
  | with_reducible refine litn_f ?_
  | with_reducible refine litn2_t ?_
  | with_reducible refine litn2_f ?_
  | with_reducible refine lit2_f ?_
  | ((with_reducible refine ex_cell1 ?_); refine ⟨_, (by first | with_reducible assumption | exact rfl), ?_⟩)
  | with_reducible refine ex_int ?_
  | with_reducible refine ex_bool ?_
  | with_reducible refine ex_dat ?_
  | with_reducible refine ex_bx ?_
  | with_reducible refine ex_lst ?_
  | with_reducible refine ex1 ?_
  | ((with_reducible refine ex_mul ?_ ?_); (try (first | exact mulOk_r (by omega) (by omega) | exact mulOk_l (by omega) (by omega))))
  | ((with_reducible refine ex_mod ?_ ?_); (try omega))
  | ((with_reducible refine ex_div ?_ ?_); (try omega))
  | ((with_reducible refine ex_cat_l ?_ ?_); (try (simp [sizeLine] <;> omega)))
  | ((with_reducible refine ex_cat_t ?_ ?_); (try (simp [sizeLine] <;> omega)))
  | ((with_reducible refine ex_cat_l0 ?_ ?_); (try (simp [sizeLine] <;> omega)))
  | ((with_reducible refine ex_cat_t0 ?_ ?_); (try (simp [sizeLine] <;> omega)))
  | ((with_reducible refine ex_cat_b ?_ ?_); (try (simp [sizeLine] <;> omega)))
  | ((with_reducible refine ex_cat_s ?_ ?_); (try (simp [sizeLine] <;> omega)))
  | ((with_reducible refine ex_app ?_ ?_); (try (simp [sizeLine] <;> omega)))
  | ((with_reducible refine ex_some1 ?_); refine ⟨_, (by first
    | with_reducible exact it_t_0
    | with_reducible exact it_t_1
    | with_reducible exact it_t_2
    | with_reducible exact it_l_0
    | with_reducible exact it_l_1
    | with_reducible exact it_l_2
    | with_reducible exact it_l (by assumption)
    | with_reducible exact it_t (by assumption)
    | with_reducible exact sl_l_lo
    | with_reducible exact sl_l_hi
    | with_reducible exact sl_t_lo
    | with_reducible exact sl_t_hi
    | with_reducible exact sl_l_mid
    | with_reducible exact sl_t_mid
    | with_reducible exact eq_int
    | with_reducible exact ne_int
    | with_reducible exact pow1012
    | with_reducible exact pow1018
    | with_reducible assumption), ?_⟩)
  | ((fail_if_success (with_reducible refine is_item ?_)); (fail_if_success (with_reducible refine is_min ?_)); (fail_if_success (with_reducible refine is_max ?_)); (fail_if_success (with_reducible refine is_join ?_)); (fail_if_success (with_reducible refine is_index ?_)); (with_reducible refine ex_some1 ?_); refine ⟨_, rfl, ?_⟩)
  | with_reducible exact ⟨rfl, rfl⟩
))
section
variable (k : Nat) (st : Store) {E : Exn → Store → Prop}
theorem range_nat {n : Nat} (hn : n ≤ 5) : rangeB [.int (n : Nat)] = some (.list ((List.range n).map natD)) := by
  show (if -(2 ^ 62) ≤ (n : Int) ∧ (n : Int) ≤ 16777216 then some (PyData.list ((List.range (n : Int).toNat).map fun i => .int (0 + (i : Nat)))) else none) = _
  rw [if_pos ⟨by omega, by omega⟩, Int.toNat_natCast]
  congr 2
  refine List.map_congr_left fun i _ => ?_
  rw [Int.zero_add]
theorem ne_nats (L : List Nat) : cmpD .NotEq (.list (L.map natD)) (.list []) = some (!(L == [])) := by
  have hd : shallow (.list (L.map natD)) = true := by
    have := depthAll_le (m := 0) natD (l := L) fun x _ => by simp [PyData.depth]
    unfold shallow
    rw [depth_listL, decide_eq_true (by omega)]
  show (eqD (.list (L.map natD)) (.list [])).map (!·) = _
  unfold eqD
  rw [hd, if_pos (by simp [shallow, PyData.depth, PyData.depthAll])]
  cases L <;> simp [PyData.eqv, PyData.eqvAll]
theorem map_erase {α β : Type} (f : α → β) : ∀ (l : List α) (i : Nat), (l.map f).eraseIdx i = (l.eraseIdx i).map f
  | [], _ => rfl
  | _ :: _, 0 => rfl
  | x :: l, i + 1 => by
    show f x :: (l.map f).eraseIdx i = f x :: (l.eraseIdx i).map f
    rw [map_erase f l i]
theorem erase_perm {α : Type} : ∀ (l : List α) (i : Nat) (h : i < l.length), (l[i] :: l.eraseIdx i).Perm l
  | _ :: _, 0, _ => .refl _
  | x :: l, i + 1, h => by
    have := erase_perm l i (by simpa using h)
    exact (List.Perm.swap x _ _).trans (this.cons x)
theorem index_nats {O : List Nat} {x : Nat} (h : x ∈ O) : indexM .list [.list (O.map natD), natD x] = some (natD (O.idxOf x)) := by
  show (if shallow (natD x) && !isDict (natD x) then (Ev.placeOf (natD x) (O.map natD)).map fun (j : Nat) => PyData.int (j : Int) else none) = _
  rw [if_pos (by simp [shallow, isDict, natD, PyData.depth])]
  unfold Ev.placeOf
  have e : (O.map natD).findIdx? (fun z => PyData.eqv z (natD x)) = some (O.idxOf x) := by
    rw [List.findIdx?_map]
    have e1 : ((fun z => PyData.eqv z (natD x)) ∘ natD) = fun z => z == x := by
      funext z
      show PyData.eqv (.int (z : Nat)) (.int (x : Nat)) = _
      simp only [PyData.eqv]
      by_cases c : z = x
      · rw [c, beq_self_eq_true, beq_self_eq_true]
      · rw [beq_false_of_ne c, beq_false_of_ne fun e => c (by omega)]
    rw [e1, List.findIdx?_eq_some_iff_getElem]
    have hx := List.idxOf_lt_length_of_mem h
    refine ⟨hx, by rw [List.getElem_idxOf hx]; simp, fun j hj => ?_⟩
    have := List.not_of_lt_findIdx (p := fun z => z == x) (xs := O) hj
    simpa using this
  rw [e]
  rfl
theorem range_get {α : Type} (f : Nat → α) {O : List Nat} {n : Nat} (h : O.length = n) : (List.range n).map (fun i => f (O.getD i 0)) = O.map f := by
  refine List.ext_getElem (by rw [List.length_map, List.length_map, List.length_range, h]) fun i h1 h2 => ?_
  rw [List.length_map] at h2
  rw [List.getElem_map, List.getElem_map, List.getElem_range, List.getD_eq_getElem?_getD, List.getElem?_eq_getElem h2, Option.getD_some]
theorem item_row {r : List Bool} {j : Nat} (h : j < r.length) : itemD (rowD r) (natD j) = some (bitD (r.getD j false)) := by
  show L2.atI (r.map bitD) (j : Int) = _
  have hl : j < (r.map bitD).length := by rw [List.length_map]; exact h
  rw [atI_nat _ _ hl, List.getElem_map, List.getD_eq_getElem?_getD, List.getElem?_eq_getElem h]
  rfl
theorem item_nats {O : List Nat} {j : Nat} (h : j < O.length) : itemD (.list (O.map natD)) (natD j) = some (natD (O.getD j 0)) := by
  show L2.atI (O.map natD) (j : Int) = _
  have hl : j < (O.map natD).length := by rw [List.length_map]; exact h
  rw [atI_nat _ _ hl, List.getElem_map, List.getD_eq_getElem?_getD, List.getElem?_eq_getElem h]
  rfl
theorem item_net {F : List (List Bool)} {j : Nat} (h : j < F.length) : itemD (netD F) (natD j) = some (fnD (F.getD j [])) := by
  show L2.atI (F.map fnD) (j : Int) = _
  have hl : j < (F.map fnD).length := by rw [List.length_map]; exact h
  rw [atI_nat _ _ hl, List.getElem_map, List.getD_eq_getElem?_getD, List.getElem?_eq_getElem h]
  rfl
theorem pop_nats {L : List Nat} {v : Nat} (h : v < L.length) (hl : L.length ≤ 5) : popAtK .list (.list (L.map natD)) [.int (v : Nat)] = some (.list ((L.eraseIdx v).map natD), natD L[v]) := by
  unfold popAtK
  simp only
  rw [if_pos ⟨by omega, by omega⟩, List.length_map]
  have e : seqIndex? (v : Int) L.length = some v := by
    unfold seqIndex?
    simp
    omega
  rw [e]
  show ((L.map natD)[v]?).map _ = _
  rw [List.getElem?_map, List.getElem?_eq_getElem h, map_erase]
  rfl
theorem app_nats (O : List Nat) (x : Nat) (h : O.length ≤ 5) : appendK .list (.list (O.map natD)) [natD x] = some (.list ((O ++ [x]).map natD), .none) := by
  show (if (O.map natD).length < sizeLine then some (PyData.list (O.map natD ++ [natD x]), PyData.none) else none) = _
  rw [List.length_map, if_pos (Nat.lt_of_lt_of_le (show O.length < 6 by omega) (by decide)), List.map_append]
  rfl
theorem w__law_turned_right {a b : Int} {rest : Store} {F : List (List Bool)} (hF : Net F) {Q : W → Store → Prop} (h : ∀ (a' b' : Int), Q (.d (.bool true)) (cupC a' b' :: rest)) :
    Wp (callD tbl (k + 7) i__law_turned_right [.bx 0, .d (netD F)] (cupC a b :: rest)) Q E := by
  rw [c__law_turned_right]
  refine wp_fn rfl rfl ?_
  have h5 := hF.1
  repeat array_get_dec
  rw [List.length_map]
  refine ⟨_, range_nat h5, ?_⟩
  repeat array_get_dec
  refine while_inv (fun m ρ s => ∃ (L O : List Nat) (a b : Int), L.length = m ∧ (O ++ L).Perm (List.range F.length) ∧
    ρ = [some (.bx 0), some (.d (netD F)), some (.d (.int (F.length : Nat))), none, none, none, none, none, some (.bx (rest.length + 1)), some (.bx (rest.length + 2)), none, none, none, none] ∧
    s = cupC a b :: (rest ++ [⟨.list (L.map natD), .live⟩, ⟨.list (O.map natD), .live⟩])) ?_ _ F.length _ _ (Nat.lt_of_le_of_lt h5 (by decide)) ?_
  · rintro m ρ s ⟨L, O, a, b, hm, hp, rfl, rfl⟩
    have hg1 : ∀ a b, (cupC a b :: (rest ++ [⟨.list (L.map natD), .live⟩, ⟨.list (O.map natD), .live⟩]) : Store)[rest.length + 1]? = some ⟨.list (L.map natD), .live⟩ := fun a b => by simp
    have hg2 : ∀ a b, (cupC a b :: (rest ++ [⟨.list (L.map natD), .live⟩, ⟨.list (O.map natD), .live⟩]) : Store)[rest.length + 2]? = some ⟨.list (O.map natD), .live⟩ := fun a b => by simp
    have hg1' := hg1 a b
    have hg2' := hg2 a b
    repeat array_get_dec
    refine ⟨_, ne_nats _, ?_⟩
    repeat array_get_dec
    refine ⟨fun e => ?_, fun e => ?_⟩
    · have e : L = [] := by simpa using e
      subst e
      rw [List.append_nil] at hp
      repeat array_get_dec
      refine ⟨by omega, ?_⟩
      refine for_inv (fun l ρ s => ∃ (pre : List Nat) (o4 o10 o11 o12 : Option W), pre ++ l = List.range F.length ∧
        ρ = [some (.bx 0), some (.d (netD F)), some (.d (.int (F.length : Nat))), some (.bx (rest.length + 3)), o4, none, none, none, some (.bx (rest.length + 1)), some (.bx (rest.length + 2)), o10, o11, o12, none] ∧
        s = cupC a b :: (rest ++ [⟨.list [], .live⟩, ⟨.list (O.map natD), .live⟩, ⟨.list (pre.map fun i => fnD (turnF F O (O.getD i 0))), .live⟩])) ?_ ?_ ?_
      · exact ⟨[], none, none, none, none, rfl, by simp, by simp⟩
      · rintro i l ρ s ⟨pre, o4, o10, o11, o12, hpr, rfl, rfl⟩
        have hg2'' : ∀ x, (cupC a b :: (rest ++ [⟨.list [], .live⟩, ⟨.list (O.map natD), .live⟩, x]) : Store)[rest.length + 2]? = some ⟨.list (O.map natD), .live⟩ := fun x => by simp
        have hg3 := hg2'' ⟨.list (pre.map fun i => fnD (turnF F O (O.getD i 0))), .live⟩
        have hO : O.length = F.length := by rw [hp.length_eq, List.length_range]
        have hi : i < F.length := List.mem_range.mp (by rw [← hpr]; simp)
        refine ⟨_, rfl, ?_⟩
        simp only [Int.zero_add]
        repeat array_get_dec
        refine wp_is (run__law_rows _ _ F.length h5) ?_
        repeat array_get_dec
        refine for_inv (fun l2 ρ s => ∃ (pre2 : List (List Bool)) (o11 o12 : Option W), pre2 ++ l2 = rowsF F.length ∧
          ρ = [some (.bx 0), some (.d (netD F)), some (.d (.int (F.length : Nat))), some (.bx (rest.length + 3)), some (.d (natD i)), none, none, none, some (.bx (rest.length + 1)), some (.bx (rest.length + 2)), some (.d (fnD (pre2.map fun r => (F.getD (O.getD i 0) []).getD (num (phi F.length O r)) false))), o11, o12, none] ∧
          s = cupC a b :: (rest ++ [⟨.list [], .live⟩, ⟨.list (O.map natD), .live⟩, ⟨.list (pre.map fun i => fnD (turnF F O (O.getD i 0))), .live⟩])) ?_ ?_ ?_
        · exact ⟨[], _, _, rfl, rfl, rfl⟩
        · rintro r l2 ρ s ⟨pre2, o11, o12, hp2, rfl, rfl⟩
          have hr : r.length = F.length := rowsF_len _ r (by rw [← hp2]; simp)
          refine ⟨_, rfl, ?_⟩
          repeat array_get_dec
          refine ⟨by omega, ?_⟩
          refine wp_map (en := fun j : Nat => .int (0 + (j : Nat))) (fun own => bitD (r.getD (O.idxOf own) false)) ?_ ?_
          · intro own ho
            have ho : own < F.length := by rw [Int.toNat_natCast] at ho; exact List.mem_range.mp ho
            have hm : own ∈ O := hp.mem_iff.mpr (List.mem_range.mpr ho)
            have hx : O.idxOf own < r.length := by
              have := List.idxOf_lt_length_of_mem hm
              omega
            refine ⟨_, rfl, ?_⟩
            simp only [Int.zero_add]
            repeat array_get_dec
            refine ⟨_, index_nats hm, ?_⟩
            repeat array_get_dec
            refine ⟨_, item_row hx, ?_⟩
            repeat array_get_dec
          repeat array_get_dec
          have eold : PyData.tuple ((List.range (F.length : Int).toNat).map fun own => bitD (r.getD (O.idxOf own) false)) = rowD (phi F.length O r) := by
            rw [Int.toNat_natCast]
            unfold phi rowD
            rw [List.map_map]
            rfl
          rw [eold]
          repeat array_get_dec
          refine wp_derefB hg3 ?_
          repeat array_get_dec
          have hi2 : i < O.length := by omega
          refine ⟨_, item_nats hi2, ?_⟩
          repeat array_get_dec
          have ho : O.getD i 0 < F.length := by
            rw [List.getD_eq_getElem?_getD, List.getElem?_eq_getElem hi2]
            exact List.mem_range.mp (hp.mem_iff.mp (List.getElem_mem hi2))
          refine ⟨_, item_net ho, ?_⟩
          repeat array_get_dec
          have hf : F.getD (O.getD i 0) [] ∈ F := by
            rw [List.getD_eq_getElem?_getD, List.getElem?_eq_getElem ho]
            exact List.getElem_mem ho
          refine wp_is (run__law_at _ _ _ (phi F.length O r) (by rw [phi_len]; exact hF.2 _ hf) (by rw [phi_len]; exact h5)) ?_
          repeat array_get_dec
          refine ⟨_, str_bit _, ?_⟩
          repeat array_get_dec
          refine ⟨_, cat_fn _ _ ?_, ?_⟩
          · have := congrArg List.length hp2
            rw [List.length_append, rowsF_size] at this
            have h2 : 2 ^ F.length ≤ 32 := Nat.le_trans (Nat.pow_le_pow_right (by decide) h5) (by decide)
            rw [List.length_map]
            omega
          repeat array_get_dec
          refine ⟨pre2 ++ [r], _, _, by rw [← hp2]; simp, by rw [List.map_append]; rfl, rfl⟩
        · rintro ρ s ⟨pre2, o11, o12, hp2, rfl, rfl⟩
          rw [List.append_nil] at hp2
          subst hp2
          have hg4 : (cupC a b :: (rest ++ [⟨.list [], .live⟩, ⟨.list (O.map natD), .live⟩, ⟨.list (pre.map fun i => fnD (turnF F O (O.getD i 0))), .live⟩]) : Store)[rest.length + 3]? = some ⟨.list (pre.map fun i => fnD (turnF F O (O.getD i 0))), .live⟩ := by simp
          repeat array_get_dec
          · have := congrArg List.length hpr
            rw [List.length_append, List.length_range] at this
            rw [List.length_map]
            exact Nat.lt_of_lt_of_le (show pre.length < 6 by omega) (by decide)
          repeat array_get_dec
          refine ⟨pre ++ [i], _, _, _, _, by rw [← hpr]; simp, rfl, ?_⟩
          simp [turnF]
      · rintro ρ s ⟨pre, o4, o10, o11, o12, hpr, rfl, rfl⟩
        rw [List.append_nil] at hpr
        subst hpr
        have hO : O.length = F.length := by rw [hp.length_eq, List.length_range]
        have eR : ((List.range F.length).map fun i => fnD (turnF F O (O.getD i 0))) = (turn F O).map fnD := by
          rw [range_get (fun o => fnD (turnF F O o)) hO]
          unfold turn
          rw [List.map_map]
          rfl
        rw [eR]
        have hg5 : (cupC a b :: (rest ++ [⟨.list [], .live⟩, ⟨.list (O.map natD), .live⟩, ⟨.list ((turn F O).map fnD), .live⟩]) : Store)[rest.length + 3]? = some ⟨.list ((turn F O).map fnD), .live⟩ := by simp
        have C := turn_conj hF hp
        generalize turn F O = T at *
        repeat array_get_dec
        refine w_all_rounds _ _ C.nG ?_
        repeat array_get_dec
        refine wp_map (en := roundD) (fun c => natD c.length) ?_ ?_
        · intro c _
          refine ⟨_, rfl, ?_⟩
          repeat array_get_dec
          exact ⟨by rw [List.length_map], rfl⟩
        repeat array_get_dec
        have s1 := sortB_nats ((sr (allK T)).map List.length)
        rw [List.map_map] at s1
        refine ⟨_, s1, ?_⟩
        repeat array_get_dec
        refine w_lots_of_rounds _ _ C.nG ?_
        repeat array_get_dec
        have s2 := sortB_natsT ((sr (allK T)).map fun c => (allK T).count c)
        rw [List.map_map] at s2
        refine ⟨_, s2, ?_⟩
        repeat array_get_dec
        refine w_garden_rows _ _ C.nG ?_
        repeat array_get_dec
        refine w_longest_tail _ _ C.nG ?_
        repeat array_get_dec
        refine w_all_rounds _ _ C.nF ?_
        repeat array_get_dec
        refine wp_map (en := roundD) (fun c => natD c.length) ?_ ?_
        · intro c _
          refine ⟨_, rfl, ?_⟩
          repeat array_get_dec
          exact ⟨by rw [List.length_map], rfl⟩
        repeat array_get_dec
        have s3 := sortB_nats ((sr (allK F)).map List.length)
        rw [List.map_map] at s3
        refine ⟨_, s3, ?_⟩
        repeat array_get_dec
        refine w_lots_of_rounds _ _ C.nF ?_
        repeat array_get_dec
        have s4 := sortB_natsT ((sr (allK F)).map fun c => (allK F).count c)
        rw [List.map_map] at s4
        refine ⟨_, s4, ?_⟩
        repeat array_get_dec
        refine w_garden_rows _ _ C.nF ?_
        repeat array_get_dec
        refine w_longest_tail _ _ C.nF ?_
        repeat array_get_dec
        simp only [nsort_perm C.lens, nsort_perm C.lots, List.length_map, C.gardens_len, C.top]
        refine w_like _ (n := 2) rfl ?_ ?_ (by omega) ?_
        · simp only [nice, niceAll, nice_nats, Bool.and_self]
        · rw [depth_listL]
          simp only [PyData.depthAll, depth_listL, depth_nats, PyData.depth]
          omega
        repeat array_get_dec
        refine w_still_rows _ _ C.nG ?_
        repeat array_get_dec
        refine w_still_rows _ _ C.nF ?_
        repeat array_get_dec
        have e9 : decide ((((stills T).map rowD).length : Int) = ((stills F).map rowD).length) = true := by
          rw [List.length_map, List.length_map, C.stills_len]
          exact decide_eq_true rfl
        rw [e9]
        simp only [unlock]
        exact fnk_t (s := cupC a b :: rest) (by simp [cupC]) (h a b)
    · have hL : 0 < L.length := List.length_pos_iff.mpr (by simpa using e)
      have hl5 : L.length ≤ 5 := by
        have := hp.length_eq
        rw [List.length_append, List.length_range] at this
        omega
      repeat array_get_dec
      refine wp_argB rfl ?_
      repeat array_get_dec
      rw [List.length_map]
      refine w_roll _ (by omega) (by omega) fun v a b hv => ?_
      have hv : v < L.length := by omega
      repeat array_get_dec
      refine ⟨_, hg1 a b, _, pop_nats hv hl5, ?_⟩
      repeat array_get_dec
      have hlo : O.length ≤ 5 := by
        have := hp.length_eq
        rw [List.length_append, List.length_range] at this
        omega
      refine ⟨.list (O.map natD), by simp, _, app_nats O L[v] hlo, ?_⟩
      repeat array_get_dec
      refine ⟨(L.eraseIdx v).length, by rw [List.length_eraseIdx, if_pos hv]; omega, L.eraseIdx v, O ++ [L[v]], a, b, rfl, ?_, rfl, by simp⟩
      rw [List.append_assoc]
      exact ((erase_perm L v hv).append_left O).trans hp
  · exact ⟨List.range F.length, [], a, b, by simp, by simp, by simp [setAll, cupC], by simp⟩
end
end Law

set_option Elab.async false
set_option linter.all false
set_option maxRecDepth 100000
set_option maxHeartbeats 1000000
namespace Law
open PySem Ev
/-! ### rounds, counted out -/
def leB (a b : List Bool) : Bool := decide (a.map bI ≤ b.map bI)
def leastOf : List (List Bool) → List Bool → List Bool
  | [], a => a
  | b :: l, a => if leB a b then leastOf l a else leastOf l b
def meetAt (F : List (List Bool)) (r : List Bool) : Nat := ((List.range 33).find? fun m => (orbs F r m).contains (orb F r m)).getD 0
def rdC (F : List (List Bool)) (r : List Bool) : Nat × Nat × List Bool × Nat :=
  let m := meetAt F r
  let t := (orbs F r m).idxOf (orb F r m)
  let s := leastOf ((orbs F r m).drop t) (orb F r t)
  (m, t, s, ((orbs F r m).drop t).idxOf s)
def chk (F : List (List Bool)) (r : List Bool) (p : Nat × Nat × List Bool × Nat) : Bool :=
  decide (p.2.1 < p.1) && decide (p.1 ≤ 32) && decide (orb F r p.2.1 = orb F r p.1) && decide (orbs F r p.1).Nodup && ((orbs F r p.1).drop p.2.1).contains p.2.2.1 && (((orbs F r p.1).drop p.2.1).all fun q => leB p.2.2.1 q) && decide (((orbs F r p.1).drop p.2.1)[p.2.2.2]? = some p.2.2.1)
def keyC (F : List (List Bool)) (r : List Bool) : Round := ((orbs F r (rdC F r).1).drop (rdC F r).2.1).drop (rdC F r).2.2.2 ++ ((orbs F r (rdC F r).1).drop (rdC F r).2.1).take (rdC F r).2.2.2
theorem rd_chk {F : List (List Bool)} (hF : Net F) {r : List Bool} (hr : r.length = F.length) {p : Nat × Nat × List Bool × Nat} (h : chk F r p = true) : rd F r = p := by
  obtain ⟨m, t, s, j⟩ := p
  unfold chk at h
  simp only [Bool.and_eq_true, decide_eq_true_eq] at h
  obtain ⟨⟨⟨⟨⟨⟨h1, h2⟩, h3⟩, h4⟩, h5⟩, h6⟩, h7⟩ := h
  have R := rd_ok hF hr
  have W : Walk F r m t := ⟨h1, h2, h3, fun a b hab hb e => by
    have h8 := List.pairwise_iff_getElem.mp h4 a b (by rw [orbs_len]; omega) (by rw [orbs_len]; omega) hab
    rw [orbs_at, orbs_at] at h8
    exact h8 e⟩
  obtain ⟨e1, e2⟩ := walk_one R.walk W
  have hs : (rd F r).2.2.1 = s := by
    refine min_one (R.le s ?_) ?_
    · rw [e1, e2]
      simpa using h5
    · have := List.all_eq_true.mp h6 (rd F r).2.2.1 (by
        have := R.mem
        rw [e1, e2] at this
        exact this)
      exact of_decide_eq_true this
  have hj : (rd F r).2.2.2 = j := by
    have g1 := place_get R.idx
    rw [e1, e2, hs] at g1
    have hn : ((orbs F r m).drop t).Nodup := h4.sublist (List.drop_sublist t _)
    obtain ⟨b1, c1⟩ := List.getElem?_eq_some_iff.mp g1
    obtain ⟨b2, c2⟩ := List.getElem?_eq_some_iff.mp h7
    have hp := List.pairwise_iff_getElem.mp hn
    rcases Nat.lt_trichotomy (rd F r).2.2.2 j with c | c | c
    · exact absurd (c1.trans c2.symm) (hp _ _ b1 b2 c)
    · exact c
    · exact absurd (c2.trans c1.symm) (hp _ _ b2 b1 c)
  have e : rd F r = ((rd F r).1, (rd F r).2.1, (rd F r).2.2.1, (rd F r).2.2.2) := rfl
  rw [e, e1, e2, hs, hj]
theorem all_chk {F : List (List Bool)} (hF : Net F) (h : ((rowsF F.length).all fun r => chk F r (rdC F r)) = true) : ∀ r, r.length = F.length → rd F r = rdC F r := fun r hr => rd_chk hF hr (List.all_eq_true.mp h r (rows_all _ r hr))
theorem allK_is {F : List (List Bool)} (hF : Net F) (h : ((rowsF F.length).all fun r => chk F r (rdC F r)) = true) : allK F = (rowsF F.length).map (keyC F) := by
  refine List.map_congr_left fun r hr => ?_
  unfold keyF keyC
  rw [all_chk hF h r (rowsF_len _ r hr)]
theorem topT_is {F : List (List Bool)} (hF : Net F) (h : ((rowsF F.length).all fun r => chk F r (rdC F r)) = true) : topT F = ((rowsF F.length).map fun r => (rdC F r).2.1).foldl max 0 := by
  unfold topT
  congr 1
  refine List.map_congr_left fun r hr => ?_
  unfold tailF
  rw [all_chk hF h r (rowsF_len _ r hr)]
theorem leC_total : W.TotalLe leC := ⟨fun a b c h1 h2 => le_total.trans _ _ _ h1 h2, fun a b => le_total.total _ _⟩
theorem sr_is {L M : List Round} (h : L.eraseDups.Perm M) (hp : M.Pairwise fun a b => leC a b = true) (ha : ∀ a ∈ M, ∀ b ∈ M, leC a b = true → leC b a = true → a = b) : sr L = M := by
  unfold sr
  refine List.Perm.eq_of_pairwise (le := fun a b => leC a b = true) (fun a b ha' hb h1 h2 => ha a ?_ b hb h1 h2) (W.sort_pairwise leC_total _) hp ((List.mergeSort_perm _ _).trans h)
  exact h.mem_iff.mp ((List.mergeSort_perm _ _).mem_iff.mp ha')
def swapF : List (List Bool) := [[false, true, false, true], [false, false, true, true]]
def bothF : List (List Bool) := [[false, false, false, true], [false, true, true, true]]
def ringF (n : Nat) : List (List Bool) := (List.range n).map fun i => (rowsF n).map fun r => r.getD ((i + 1) % n) false
theorem net_by {F : List (List Bool)} (h : F.length ≤ 5 ∧ ∀ f ∈ F, f.length = 2 ^ F.length) : Net F := h
theorem swap_net : Net swapF := net_by (by decide +kernel)
theorem both_net : Net bothF := net_by (by decide +kernel)
theorem sr_swap : sr (allK swapF) = [[[false, false]], [[false, true], [true, false]], [[true, true]]] := by
  rw [allK_is swap_net (by decide +kernel)]
  exact sr_is (by decide +kernel) (by decide +kernel) (by decide +kernel)
end Law

set_option Elab.async false
set_option linter.all false
set_option maxRecDepth 100000
set_option maxHeartbeats 1000000
namespace Law
open PySem Ev
theorem swap_chk : ((rowsF swapF.length).all fun r => chk swapF r (rdC swapF r)) = true := by decide +kernel
theorem both_chk : ((rowsF bothF.length).all fun r => chk bothF r (rdC bothF r)) = true := by decide +kernel
theorem sr_both : sr (allK bothF) = [[[false, false]], [[false, true]], [[true, true]]] := by
  rw [allK_is both_net both_chk]
  exact sr_is (by decide +kernel) (by decide +kernel) (by decide +kernel)
theorem lots_swap : ((sr (allK swapF)).map fun c => natD ((allK swapF).count c)) = [natD 1, natD 2, natD 1] := by
  rw [sr_swap, allK_is swap_net swap_chk]
  have h : ([[[false, false]], [[false, true], [true, false]], [[true, true]]] : List Round).map (fun c => ((rowsF swapF.length).map (keyC swapF)).count c) = [1, 2, 1] := by decide +kernel
  have h2 := congrArg (List.map natD) h
  rw [List.map_map] at h2
  exact h2
theorem lots_both : ((sr (allK bothF)).map fun c => natD ((allK bothF).count c)) = [natD 1, natD 2, natD 1] := by
  rw [sr_both, allK_is both_net both_chk]
  have h : ([[[false, false]], [[false, true]], [[true, true]]] : List Round).map (fun c => ((rowsF bothF.length).map (keyC bothF)).count c) = [1, 2, 1] := by decide +kernel
  have h2 := congrArg (List.map natD) h
  rw [List.map_map] at h2
  exact h2
theorem top_swap : topT swapF = 0 := by rw [topT_is swap_net swap_chk]; decide +kernel
theorem top_both : topT bothF = 1 := by rw [topT_is both_net both_chk]; decide +kernel
theorem stills_swap : stills swapF = [[false, false], [true, true]] := by decide +kernel
theorem gardens_swap : gardens swapF = [] := by decide +kernel
theorem gardens_both : gardens bothF = [[true, false]] := by decide +kernel
theorem nil_net : Net [] := net_by (by decide +kernel)
theorem sr_nil : sr (allK []) = [[[]]] := by
  rw [allK_is nil_net (by decide +kernel)]
  exact sr_is (by decide +kernel) (by decide +kernel) (by decide +kernel)
theorem one_net : Net [[true, true]] := net_by (by decide +kernel)
theorem zero_net : Net [[false, false]] := net_by (by decide +kernel)
theorem gardens_one : gardens [[true, true]] = [[false]] := by decide +kernel
theorem gardens_zero : gardens [[false, false]] = [[true]] := by decide +kernel
theorem top_one : topT [[true, true]] = 1 := by rw [topT_is one_net (by decide +kernel)]; decide +kernel
/-! ### rings -/
theorem fiv {P : Nat → Prop} (h1 : P 1) (h2 : P 2) (h3 : P 3) (h4 : P 4) (h5 : P 5) {n : Nat} (h0 : 0 < n) (hn : n ≤ 5) : P n := by
  obtain rfl | rfl | rfl | rfl | rfl : n = 1 ∨ n = 2 ∨ n = 3 ∨ n = 4 ∨ n = 5 := by omega
  · exact h1
  · exact h2
  · exact h3
  · exact h4
  · exact h5
def ringOk (n : Nat) : Bool := decide ((ringF n).length = n) && decide (∀ f ∈ ringF n, f.length = 2 ^ n) && ((rowsF n).all fun r => chk (ringF n) r (rdC (ringF n) r)) && decide (((rowsF n).map (keyC (ringF n))).eraseDups.length = [2, 3, 4, 6, 8].getD (n - 1) 0) &&
  ((rowsF n).all fun r => decide (n % (keyC (ringF n) r).length = 0)) && ((rowsF n).all fun r => decide (stepR (ringF n) r = r.drop 1 ++ r.take 1)) && decide (gardens (ringF n) = []) && decide (stills (ringF n) = [List.replicate n false, List.replicate n true])
theorem ring_ok {n : Nat} (h0 : 0 < n) (hn : n ≤ 5) : ringOk n = true := fiv (P := fun n => ringOk n = true) (by decide +kernel) (by decide +kernel) (by decide +kernel) (by decide +kernel) (by decide +kernel) h0 hn
structure Ring (n : Nat) : Prop where
  len : (ringF n).length = n
  net : Net (ringF n)
  rounds : (sr (allK (ringF n))).length = [2, 3, 4, 6, 8].getD (n - 1) 0
  per : ∀ r, r.length = n → n % (keyF (ringF n) r).length = 0
  step : ∀ r, r.length = n → stepR (ringF n) r = r.drop 1 ++ r.take 1
  gardens : gardens (ringF n) = []
  stills : stills (ringF n) = [List.replicate n false, List.replicate n true]
theorem ring_is {n : Nat} (h0 : 0 < n) (hn : n ≤ 5) : Ring n := by
  have h := ring_ok h0 hn
  unfold ringOk at h
  simp only [Bool.and_eq_true, decide_eq_true_eq] at h
  obtain ⟨⟨⟨⟨⟨⟨⟨h1, h2⟩, h3⟩, h4⟩, h5⟩, h6⟩, h7⟩, h8⟩ := h
  have hF : Net (ringF n) := ⟨by rw [h1]; exact hn, fun f hf => by rw [h1]; exact h2 f hf⟩
  have hc : ((rowsF (ringF n).length).all fun r => chk (ringF n) r (rdC (ringF n) r)) = true := by rw [h1]; exact h3
  refine ⟨h1, hF, ?_, fun r hr => ?_, fun r hr => ?_, h7, h8⟩
  · rw [(sr_perm _).length_eq, allK_is hF hc, h1]
    exact h4
  · have e : keyF (ringF n) r = keyC (ringF n) r := by
      unfold keyF keyC
      rw [all_chk hF hc r (by rw [h1]; exact hr)]
    rw [e]
    exact of_decide_eq_true (List.all_eq_true.mp h5 r (rows_all n r hr))
  · exact of_decide_eq_true (List.all_eq_true.mp h6 r (rows_all n r hr))
end Law

set_option Elab.async false
set_option linter.all false
set_option maxRecDepth 100000
set_option maxHeartbeats 1000000
namespace Law
open PySem Ev
local macro_rules | `(tactic| array_get_dec) => `(tactic| (first
  | with_reducible refine wp_assoc ?_
  | with_reducible refine wp_skip ?_
  | with_reducible refine wp_set ?_
  | with_reducible refine wp_if ?_
  | with_reducible refine wp_ret ?_
  | with_reducible refine wp_drop ?_
  | with_reducible refine wp_asg ?_
  | with_reducible refine wp_par ?_
  | with_reducible refine wp_put ?_
  | with_reducible refine wp_brk ?_
  | with_reducible refine wp_cont ?_
  | with_reducible refine wp_next ?_
  | with_reducible refine wp_for ?_
  | with_reducible refine wp_while ?_
  | with_reducible refine fnk_d ?_
  | with_reducible refine fnk_d1 ?_
  | with_reducible refine fnk_dc ?_
  | with_reducible refine fnk_nx ?_
  | with_reducible refine fnk_nx1 ?_
  | with_reducible refine fnk_b ?_
  | with_reducible refine turnk_nx ?_
  | with_reducible refine turnk_cont ?_
  | with_reducible refine turnk_brk ?_
  | with_reducible refine turnk_ret ?_
  | with_reducible refine loopk_nx ?_
  | with_reducible refine loopk_ret ?_
  | ((with_reducible refine wp_var1 ?_); refine ⟨_, rfl, ?_⟩)
  | with_reducible refine wp_d ?_
  | with_reducible refine wp_fnv ?_
  | with_reducible refine wp_deref ?_
  | with_reducible refine wp_toD ?_
  | with_reducible refine wp_argW ?_
  | with_reducible refine wp_argF ?_
  | with_reducible refine wp_evD0 ?_
  | with_reducible refine wp_evD ?_
  | with_reducible refine wp_evA0 ?_
  | with_reducible refine wp_evA ?_
  | with_reducible refine wp_evR0 ?_
  | with_reducible refine wp_evR ?_
  | with_reducible refine wp_drs0 ?_
  | with_reducible refine wp_drs ?_
  | with_reducible refine wp_tup ?_
  | with_reducible refine wp_nlist ?_
  | with_reducible refine wp_new ?_
  | with_reducible refine wp_box ?_
  | with_reducible refine wp_bin ?_
  | with_reducible refine wp_item ?_
  | with_reducible refine wp_cmp ?_
  | with_reducible refine wp_chain ?_
  | with_reducible refine wp_e1 ?_
  | with_reducible refine wp_sl00 ?_
  | with_reducible refine wp_sl10 ?_
  | with_reducible refine wp_sl01 ?_
  | with_reducible refine wp_sl11 ?_
  | with_reducible refine wp_tOf ?_
  | with_reducible refine wp_tNot ?_
  | with_reducible refine wp_tAnd ?_
  | with_reducible refine wp_tOr ?_
  | with_reducible refine wp_eAnd ?_
  | with_reducible refine wp_eOr ?_
  | with_reducible refine wp_eNot ?_
  | with_reducible refine wp_eIf ?_
  | with_reducible refine wp_call ?_
  | ((with_reducible refine wp_callV1 ?_); refine ⟨_, rfl, ?_⟩)
  | with_reducible refine wp_bi ?_
  | with_reducible refine wp_nbi ?_
  | with_reducible refine wp_meth ?_
  | with_reducible refine wp_mut ?_
  | with_reducible refine wp_iof ?_
  | with_reducible refine wp_range1 ?_
  | with_reducible refine wp_range2 ?_
  | with_reducible refine wp_zip2 ?_
  | with_reducible refine wp_enum ?_
  | with_reducible refine wp_iby ?_
  | with_reducible refine wp_ncomp ?_
  | with_reducible refine wp_elt ?_
  | ((with_reducible refine wp_src1 ?_); refine ⟨_, (by first | with_reducible assumption | exact rfl), ?_⟩)
  | ((with_reducible refine wp_derefB1 ?_); refine ⟨_, ⟨_, (by first | with_reducible exact at0 | with_reducible exact at1 | with_reducible assumption | exact rfl)⟩, ?_⟩)
  | with_reducible refine lit_t ?_
  | with_reducible refine lit_f ?_
  | with_reducible refine lit2_t ?_
  | with_reducible refine litn_t ?_
  | with_reducible refine litn_f ?_
  | with_reducible refine litn2_t ?_
  | with_reducible refine litn2_f ?_
  | with_reducible refine lit2_f ?_
  | ((with_reducible refine ex_cell1 ?_); refine ⟨_, (by first | with_reducible assumption | exact rfl), ?_⟩)
  | with_reducible refine ex_int ?_
  | with_reducible refine ex_bool ?_
  | with_reducible refine ex_dat ?_
  | with_reducible refine ex_bx ?_
  | with_reducible refine ex_lst ?_
  | with_reducible refine ex1 ?_
  | ((with_reducible refine ex_mul ?_ ?_); (try (first | exact mulOk_r (by omega) (by omega) | exact mulOk_l (by omega) (by omega))))
  | ((with_reducible refine ex_mod ?_ ?_); (try omega))
  | ((with_reducible refine ex_div ?_ ?_); (try omega))
  | ((with_reducible refine ex_cat_l ?_ ?_); (try (simp [sizeLine] <;> omega)))
  | ((with_reducible refine ex_cat_t ?_ ?_); (try (simp [sizeLine] <;> omega)))
  | ((with_reducible refine ex_cat_l0 ?_ ?_); (try (simp [sizeLine] <;> omega)))
  | ((with_reducible refine ex_cat_t0 ?_ ?_); (try (simp [sizeLine] <;> omega)))
  | ((with_reducible refine ex_cat_b ?_ ?_); (try (simp [sizeLine] <;> omega)))
  | ((with_reducible refine ex_cat_s ?_ ?_); (try (simp [sizeLine] <;> omega)))
  | ((with_reducible refine ex_app ?_ ?_); (try (simp [sizeLine] <;> omega)))
  | ((with_reducible refine ex_some1 ?_); refine ⟨_, (by first
    | with_reducible exact it_t_0
    | with_reducible exact it_t_1
    | with_reducible exact it_t_2
    | with_reducible exact it_l_0
    | with_reducible exact it_l_1
    | with_reducible exact it_l_2
    | with_reducible exact it_l (by assumption)
    | with_reducible exact it_t (by assumption)
    | with_reducible exact sl_l_lo
    | with_reducible exact sl_l_hi
    | with_reducible exact sl_t_lo
    | with_reducible exact sl_t_hi
    | with_reducible exact sl_l_mid
    | with_reducible exact sl_t_mid
    | with_reducible exact eq_int
    | with_reducible exact ne_int
    | with_reducible exact pow1012
    | with_reducible exact pow1018
    | with_reducible assumption), ?_⟩)
  | ((fail_if_success (with_reducible refine is_item ?_)); (fail_if_success (with_reducible refine is_min ?_)); (fail_if_success (with_reducible refine is_max ?_)); (fail_if_success (with_reducible refine is_join ?_)); (fail_if_success (with_reducible refine is_index ?_)); (with_reducible refine ex_some1 ?_); refine ⟨_, rfl, ?_⟩)
  | with_reducible exact ⟨rfl, rfl⟩
))
section
variable (k : Nat) (st : Store) {E : Exn → Store → Prop}
theorem gSwap : (PyData.tuple [.str "0101", .str "0011"]) = netD swapF := by kernel_rfl
theorem gBoth : (PyData.tuple [.str "0001", .str "0111"]) = netD bothF := by kernel_rfl
theorem eOne : (PyData.tuple [.str "11"]) = netD [[true, true]] := by kernel_rfl
theorem eZero : (PyData.tuple [.str "00"]) = netD [[false, false]] := by kernel_rfl
theorem eNil : (PyData.tuple []) = netD [] := rfl
theorem fnS_nil : fnS [] = Str.empty := rfl
theorem fnS_cat (f g : List Bool) : fnS f ++ fnS g = fnS (f ++ g) := by
  unfold fnS
  rw [List.map_append]
  show (⟨_ ++ _⟩ : Str) = _
  simp
theorem join_fn {α : Type} (g : α → Bool) : ∀ l : List α, Str.join "" (l.map fun n => fnS [g n]) = fnS (l.map g)
  | [] => rfl
  | [x] => rfl
  | x :: y :: l => by
    show fnS [g x] ++ "" ++ Str.join "" ((y :: l).map fun n => fnS [g n]) = _
    rw [join_fn g (y :: l)]
    have e : fnS [g x] ++ ("" : Str) = fnS [g x] := by
      have := fnS_cat [g x] []
      rwa [List.append_nil] at this
    rw [e, fnS_cat]
    rfl
theorem strs_fn {α : Type} (g : α → Bool) : ∀ l : List α, strsOf (l.map fun n => fnD [g n]) = some (l.map fun n => fnS [g n])
  | [] => rfl
  | x :: l => by
    show (strsOf (l.map fun n => fnD [g n])).map (fnS [g x] :: ·) = _
    rw [strs_fn g l]
    rfl
theorem join_bits {α : Type} (g : α → Bool) (l : List α) (h : l.length ≤ sizeLine) : joinM .str [.str "", .list (l.map fun n => fnD [g n])] = some (fnD (l.map g)) := by
  show (strsOf (l.map fun n => fnD [g n])).bind _ = _
  rw [strs_fn]
  have e : ((l.map fun n => fnS [g n]).map (·.length)).sum = l.length := by
    clear h
    induction l with
    | nil => rfl
    | cons x l ih =>
      rw [List.map_cons, List.map_cons, List.sum_cons, ih, fnS_len]
      simp; omega
  have e0 : ("" : Str).length = 0 := by kernel_rfl
  show (if ((l.map fun n => fnS [g n]).map (·.length)).sum + (l.map fun n => fnS [g n]).length * ("" : Str).length ≤ sizeLine then some (PyData.str (Txt.join "" (l.map fun n => fnS [g n]))) else none) = _
  rw [e, e0, Nat.mul_zero, Nat.add_zero, if_pos h]
  show some (PyData.str (Builtin.Str.glued "" _)) = _
  rw [StrLaws.glued_eq_join, join_fn]
  rfl
theorem mul0 {n : Nat} (h0 : 0 < n) (hn : n ≤ 5) : binD .Mult (.tuple [.int 0]) (.int (n : Nat)) = some (rowD (List.replicate n false)) :=
  fiv (P := fun n => binD .Mult (.tuple [.int 0]) (.int (n : Nat)) = some (rowD (List.replicate n false))) (by kernel_rfl) (by kernel_rfl) (by kernel_rfl) (by kernel_rfl) (by kernel_rfl) h0 hn
theorem mul1 {n : Nat} (h0 : 0 < n) (hn : n ≤ 5) : binD .Mult (.tuple [.int 1]) (.int (n : Nat)) = some (rowD (List.replicate n true)) :=
  fiv (P := fun n => binD .Mult (.tuple [.int 1]) (.int (n : Nat)) = some (rowD (List.replicate n true))) (by kernel_rfl) (by kernel_rfl) (by kernel_rfl) (by kernel_rfl) (by kernel_rfl) h0 hn
theorem known {n : Nat} (h0 : 0 < n) (hn : n ≤ 5) : itemD (.list [.int 2, .int 3, .int 4, .int 6, .int 8]) (.int ((n : Int) - 1)) = some (natD ([2, 3, 4, 6, 8].getD (n - 1) 0)) :=
  fiv (P := fun n => itemD (.list [.int 2, .int 3, .int 4, .int 6, .int 8]) (.int ((n : Int) - 1)) = some (natD ([2, 3, 4, 6, 8].getD (n - 1) 0))) (by kernel_rfl) (by kernel_rfl) (by kernel_rfl) (by kernel_rfl) (by kernel_rfl) h0 hn
theorem all_cons {P : PyData → Prop} {x : PyData} {xs : List PyData} (h : P x) (t : ∀ v ∈ xs, P v) : ∀ v ∈ x :: xs, P v := fun v hv => by
  rcases List.mem_cons.mp hv with e | e
  · rw [e]; exact h
  · exact t v e
theorem all_nil {P : PyData → Prop} : ∀ v ∈ ([] : List PyData), P v := fun v hv => by cases hv
theorem w_law {ns : List Int} (hn : ns.length ≤ 63) : ∃ s, callD tbl (k + 12) i_law [.d (.list (ns.map .int))] [] = .ok (.d (.bool true)) s := by
  suffices h : Wp (callD tbl (k + 12) i_law [.d (.list (ns.map .int))] []) (fun w s => w = .d (.bool true)) noE by
    obtain ⟨a, s, h1, rfl⟩ := wp_ex h
    exact ⟨s, h1⟩
  rw [c_law]
  refine wp_fn rfl rfl ?_
  repeat array_get_dec
  obtain ⟨a, b, hc⟩ := run__law_cup (k + 10) [] ns hn
  refine wp_is hc ?_
  repeat array_get_dec
  rw [gSwap, gBoth]
  refine w_all_rounds _ _ swap_net ?_
  repeat array_get_dec
  refine w_still_rows _ _ swap_net ?_
  repeat array_get_dec
  refine w_garden_rows _ _ swap_net ?_
  repeat array_get_dec
  refine w_lots_of_rounds _ _ swap_net ?_
  repeat array_get_dec
  refine w_longest_tail _ _ swap_net ?_
  repeat array_get_dec
  refine w_all_rounds (F := []) _ _ nil_net ?_
  repeat array_get_dec
  refine w_garden_rows _ _ both_net ?_
  repeat array_get_dec
  refine w_longest_tail _ _ both_net ?_
  repeat array_get_dec
  refine w_lots_of_rounds _ _ both_net ?_
  repeat array_get_dec
  rw [sr_swap, stills_swap, gardens_swap, top_swap, sr_nil, gardens_both, top_both]
  have l1 := lots_swap
  have l2 := lots_both
  rw [sr_swap] at l1
  rw [l1, l2]
  refine w_like _ (n := 4) (by kernel_rfl) (by kernel_rfl) (by decide +kernel) (by omega) ?_
  repeat array_get_dec
  rw [eOne]
  refine w_garden_rows _ _ one_net ?_
  repeat array_get_dec
  rw [eZero]
  refine w_garden_rows _ _ zero_net ?_
  repeat array_get_dec
  refine w_longest_tail _ _ one_net ?_
  repeat array_get_dec
  rw [gardens_one, gardens_zero, top_one]
  refine w_like _ (n := 4) (by kernel_rfl) (by kernel_rfl) (by decide +kernel) (by omega) ?_
  repeat array_get_dec
  refine for_inv0 (fun l ρ s => (∀ x ∈ l, ∃ n : Nat, n ≤ 5 ∧ x = .int n) ∧ ∃ (a b : Int) (o0 o2 o3 o4 o8 o9 o10 : Option W), ρ = [o0, some (.bx 0), o2, o3, o4, none, none, none, o8, o9, o10, none] ∧ s = [cupC a b]) ?_ ?_ ?_
  · exact ⟨all_cons ⟨1, by omega, rfl⟩ <| all_cons ⟨2, by omega, rfl⟩ <| all_cons ⟨3, by omega, rfl⟩ <| all_cons ⟨4, by omega, rfl⟩ <| all_cons ⟨5, by omega, rfl⟩ all_nil, a, b, _, _, _, _, _, _, _, rfl, rfl⟩
  · rintro x l ρ s ⟨hx, a, b, o0, o2, o3, o4, o8, o9, o10, rfl, rfl⟩
    obtain ⟨n, hn, rfl⟩ := hx x List.mem_cons_self
    refine ⟨_, rfl, ?_⟩
    repeat array_get_dec
    refine wp_argB rfl ?_
    repeat array_get_dec
    refine w__law_net _ hn fun F a b hF hFn => ?_
    repeat array_get_dec
    refine w__law_right _ _ hF ?_
    repeat array_get_dec
    refine wp_argB rfl ?_
    repeat array_get_dec
    refine w__law_turned_right _ hF fun a b => ?_
    repeat array_get_dec
    exact ⟨fun y hy => hx y (List.mem_cons_of_mem _ hy), a, b, _, _, _, _, _, _, _, rfl, rfl⟩
  rintro ρ s ⟨_, a, b, o0, o2, o3, o4, o8, o9, o10, rfl, rfl⟩
  repeat array_get_dec
  refine wp_argB rfl ?_
  repeat array_get_dec
  refine w_roll _ (by decide) (by decide) fun v a b hv => ?_
  repeat array_get_dec
  have hn1 : (1 + (v : Int)) = ((v + 1 : Nat) : Int) := by omega
  rw [hn1]
  obtain ⟨n, hnv, h0, hn5⟩ : ∃ n, v + 1 = n ∧ 0 < n ∧ n ≤ 5 := ⟨v + 1, rfl, by omega, by omega⟩
  rw [hnv]
  have RG := ring_is h0 hn5
  refine ⟨by omega, ?_⟩
  refine wp_map (en := fun i : Nat => .int (0 + (i : Nat))) (fun i => fnD ((rowsF n).map fun r => r.getD ((i + 1) % n) false)) ?_ ?_
  · intro i hi
    refine ⟨_, rfl, ?_⟩
    simp only [Int.zero_add]
    repeat array_get_dec
    refine wp_is (run__law_rows _ _ n hn5) ?_
    repeat array_get_dec
    refine wp_map (en := rowD) (fun r => fnD [r.getD ((i + 1) % n) false]) ?_ ?_
    · intro r hr
      have hr := rowsF_len _ r hr
      refine ⟨_, rfl, ?_⟩
      repeat array_get_dec
      rw [show ((i : Int) + 1) % (n : Int) = (((i + 1) % n : Nat) : Int) by rw [Int.natCast_emod]; rfl]
      refine ⟨_, item_row (by rw [hr]; exact Nat.mod_lt _ h0), ?_⟩
      repeat array_get_dec
      refine ⟨_, str_bit _, ?_⟩
      repeat array_get_dec
    repeat array_get_dec
    refine ⟨_, join_bits _ _ ?_, ?_⟩
    · rw [rowsF_size]
      exact Nat.le_trans (Nat.pow_le_pow_right (by decide) hn5) (by decide)
    repeat array_get_dec
  repeat array_get_dec
  have eR : ((List.range (n : Int).toNat).map fun i => fnD ((rowsF n).map fun r => r.getD ((i + 1) % n) false)) = (ringF n).map fnD := by
    rw [Int.toNat_natCast]
    unfold ringF
    rw [List.map_map]
    rfl
  rw [eR]
  refine wp_argB rfl ?_
  repeat array_get_dec
  refine wp_is (run__law_rows _ _ n hn5) ?_
  repeat array_get_dec
  refine w__law_some _ ?_ ?_ fun x a b hx => ?_
  · intro e
    exact rows_ne n (List.map_eq_nil_iff.mp e)
  · rw [List.length_map, rowsF_size]
    exact Nat.lt_of_le_of_lt (Nat.pow_le_pow_right (by decide) hn5) (by decide)
  obtain ⟨r, hr, rfl⟩ := List.mem_map.mp hx
  have hr := rowsF_len _ r hr
  have hr' : r.length = (ringF n).length := by rw [RG.len]; exact hr
  repeat array_get_dec
  refine wp_is (run_next_row _ _ RG.net hr') ?_
  repeat array_get_dec
  refine w_garden_rows _ _ RG.net ?_
  repeat array_get_dec
  refine w_still_rows _ _ RG.net ?_
  have c1 : Ev.cutL (r.map bitD) (some 1) none = (r.drop 1).map bitD := (cut_lo (r.map bitD) 1).trans (List.map_drop ..).symm
  have c2 : Ev.cutL (r.map bitD) none (some 1) = (r.take 1).map bitD := (cut_hi (r.map bitD) 1).trans (List.map_take ..).symm
  repeat array_get_dec
  · rw [c1, c2, List.length_map, List.length_map, List.length_drop, List.length_take]
    exact Nat.le_trans (show _ ≤ 64 by omega) (by decide)
  rw [c1, c2, ← List.map_append]
  repeat array_get_dec
  refine ⟨_, mul0 h0 hn5, ?_⟩
  repeat array_get_dec
  refine ⟨_, mul1 h0 hn5, ?_⟩
  repeat array_get_dec
  rw [RG.step r hr, RG.gardens, RG.stills]
  refine w_like _ (n := 3) rfl ?_ ?_ (by omega) ?_
  · simp only [nice, niceAll, nice_bits, nice_rows, Bool.and_self]
  · simp only [depth_listL, PyData.depthAll, depth_tuple, List.map_cons, List.map_nil, depth_bits]
    omega
  repeat array_get_dec
  refine w_all_rounds _ _ RG.net ?_
  repeat array_get_dec
  refine ⟨_, known h0 hn5, ?_⟩
  repeat array_get_dec
  have e1 : decide ((((sr (allK (ringF n))).map roundD).length : Int) = ([2, 3, 4, 6, 8].getD (n - 1) 0 : Nat)) = true := by
    rw [List.length_map, RG.rounds]
    exact decide_eq_true rfl
  refine ⟨fun e => (by rw [e1] at e; cases e), fun _ => ?_⟩
  have RD := rd_ok RG.net hr'
  have hrun := fun st => run_round_from (k + 5) st RG.net hr' RD.walk RD.min RD.idx
  repeat array_get_dec
  refine wp_is (hrun _) ?_
  have hk : 0 < (keyF (ringF n) r).length := by
    rw [key_len RG.net hr']
    exact per_pos RG.net hr'
  have e2 : decide (((n : Int) % (((keyF (ringF n) r).map rowD).length : Nat)) = 0) = true := by
    rw [List.length_map, ← Int.natCast_emod, RG.per r hr]
    rfl
  repeat array_get_dec
  · show (0 : Int) < (((keyF (ringF n) r).map rowD).length : Nat)
    rw [List.length_map]
    omega
  repeat array_get_dec
  refine fnk_t (s := []) rfl ?_
  show W.d (.bool (decide (((n : Int) % (((keyF (ringF n) r).map rowD).length : Nat)) = 0))) = _
  rw [e2]
end
end Law

namespace Law
open PySem PySem.Spec PyProof.Rows L2 Ev
theorem math : ∀ ns : List Int, ns.length ≤ 63 → ∃ st', callD tbl 60 38 [.d (.list (ns.map .int))] [] = .ok (.d (.bool true)) st' := fun ns hn => w_law 48 hn
set_option maxHeartbeats 4000000
theorem law_mk {P : Program} {w : World} {K : PySem.W.Frag} {h : Heap} {mg : Str → Option Value} {fa : Addr} (X : K.In h) (Gn : h.Ns mainGlobals mg) (hfa : mg "law" = some (.ref fa))
    {f0 f1 f2 f3 f4 f5 f6 f7 f8 f9 f10 f11 f12 f13 f14 f15 f16 f17 f18 f19 f20 f21 f22 f23 f24 f25 f26 f27 f28 f29 f30 f31 f32 f33 f34 f35 f36 f37 f38 : Addr} {od0 an0 od1 an1 od2 an2 od3 an3 od4 an4 od5 an5 od6 an6 od7 an7 od8 an8 od9 an9 od10 an10 od11 an11 od12 an12 od13 an13 od14 an14 od15 an15 od16 an16 od17 an17 od18 an18 od19 an19 od20 an20 od21 an21 od22 an22 od23 an23 od24 an24 od25 an25 od26 an26 od27 an27 od28 an28 od29 an29 od30 an30 od31 an31 od32 an32 od33 an33 od34 an34 od35 an35 od36 an36 od37 an37 od38 an38 : Option Addr} {sl0 sl1 sl2 sl3 sl4 sl5 sl6 sl7 sl8 sl9 sl10 sl11 sl12 sl13 sl14 sl15 sl16 sl17 sl18 sl19 sl20 sl21 sl22 sl23 sl24 sl25 sl26 sl27 sl28 sl29 sl30 sl31 sl32 sl33 sl34 sl35 sl36 sl37 sl38 : Array (Option Value)} {oc0 kV0 dc0 pm0 cd0 ct0 oc1 kV1 dc1 pm1 cd1 ct1 oc2 kV2 dc2 pm2 cd2 ct2 oc3 kV3 dc3 pm3 cd3 ct3 oc4 kV4 dc4 pm4 cd4 ct4 oc5 kV5 dc5 pm5 cd5 ct5 oc6 kV6 dc6 pm6 cd6 ct6 oc7 kV7 dc7 pm7 cd7 ct7 oc8 kV8 dc8 pm8 cd8 ct8 oc9 kV9 dc9 pm9 cd9 ct9 oc10 kV10 dc10 pm10 cd10 ct10 oc11 kV11 dc11 pm11 cd11 ct11 oc12 kV12 dc12 pm12 cd12 ct12 oc13 kV13 dc13 pm13 cd13 ct13 oc14 kV14 dc14 pm14 cd14 ct14 oc15 kV15 dc15 pm15 cd15 ct15 oc16 kV16 dc16 pm16 cd16 ct16 oc17 kV17 dc17 pm17 cd17 ct17 oc18 kV18 dc18 pm18 cd18 ct18 oc19 kV19 dc19 pm19 cd19 ct19 oc20 kV20 dc20 pm20 cd20 ct20 oc21 kV21 dc21 pm21 cd21 ct21 oc22 kV22 dc22 pm22 cd22 ct22 oc23 kV23 dc23 pm23 cd23 ct23 oc24 kV24 dc24 pm24 cd24 ct24 oc25 kV25 dc25 pm25 cd25 ct25 oc26 kV26 dc26 pm26 cd26 ct26 oc27 kV27 dc27 pm27 cd27 ct27 oc28 kV28 dc28 pm28 cd28 ct28 oc29 kV29 dc29 pm29 cd29 ct29 oc30 kV30 dc30 pm30 cd30 ct30 oc31 kV31 dc31 pm31 cd31 ct31 oc32 kV32 dc32 pm32 cd32 ct32 oc33 kV33 dc33 pm33 cd33 ct33 oc34 kV34 dc34 pm34 cd34 ct34 oc35 kV35 dc35 pm35 cd35 ct35 oc36 kV36 dc36 pm36 cd36 ct36 oc37 kV37 dc37 pm37 cd37 ct37 oc38 kV38 dc38 pm38 cd38 ct38 : Value} {u0 u2 u3 : Value}
    {q1 : Addr} {ob1 : Obj} {n1 : Nat} {its1 : Array Value}
    (a0 : PySem.W.nsIn K mainGlobals "is_integer" = some (some (.ref f0))) (l0 : K.lookup f0 = some ⟨oc0, od0, .func (PySem.W.fnOf "is_integer" "is_integer" (defArgs (topS 8)) (defBody (topS 8)) (defScope (topS 8)) .none kV0 dc0 pm0 an0 cd0 ct0), sl0⟩) (c0 : PySem.W.codeIn K cd0 "is_integer" = true) (k0 : PySem.W.keepIn K (.ref f0) = true)
    (a1 : PySem.W.nsIn K mainGlobals "is_whole" = some (some (.ref f1))) (l1 : K.lookup f1 = some ⟨oc1, od1, .func (PySem.W.fnOf "is_whole" "is_whole" (defArgs (topS 9)) (defBody (topS 9)) (defScope (topS 9)) .none kV1 dc1 pm1 an1 cd1 ct1), sl1⟩) (c1 : PySem.W.codeIn K cd1 "is_whole" = true) (k1 : PySem.W.keepIn K (.ref f1) = true)
    (a2 : PySem.W.nsIn K mainGlobals "is_tuple_of" = some (some (.ref f2))) (l2 : K.lookup f2 = some ⟨oc2, od2, .func (PySem.W.fnOf "is_tuple_of" "is_tuple_of" (defArgs (topS 10)) (defBody (topS 10)) (defScope (topS 10)) .none kV2 dc2 pm2 an2 cd2 ct2), sl2⟩) (c2 : PySem.W.codeIn K cd2 "is_tuple_of" = true) (k2 : PySem.W.keepIn K (.ref f2) = true)
    (a3 : PySem.W.nsIn K mainGlobals "is_word" = some (some (.ref f3))) (l3 : K.lookup f3 = some ⟨oc3, od3, .func (PySem.W.fnOf "is_word" "is_word" (defArgs (topS 11)) (defBody (topS 11)) (defScope (topS 11)) .none kV3 dc3 pm3 an3 cd3 ct3), sl3⟩) (c3 : PySem.W.codeIn K cd3 "is_word" = true) (k3 : PySem.W.keepIn K (.ref f3) = true)
    (a4 : PySem.W.nsIn K mainGlobals "fits_function" = some (some (.ref f4))) (l4 : K.lookup f4 = some ⟨oc4, od4, .func (PySem.W.fnOf "fits_function" "fits_function" (defArgs (topS 12)) (defBody (topS 12)) (defScope (topS 12)) .none kV4 dc4 pm4 an4 cd4 ct4), sl4⟩) (c4 : PySem.W.codeIn K cd4 "fits_function" = true) (k4 : PySem.W.keepIn K (.ref f4) = true)
    (a5 : PySem.W.nsIn K mainGlobals "count_in" = some (some (.ref f5))) (l5 : K.lookup f5 = some ⟨oc5, od5, .func (PySem.W.fnOf "count_in" "count_in" (defArgs (topS 13)) (defBody (topS 13)) (defScope (topS 13)) .none kV5 dc5 pm5 an5 cd5 ct5), sl5⟩) (c5 : PySem.W.codeIn K cd5 "count_in" = true) (k5 : PySem.W.keepIn K (.ref f5) = true)
    (a6 : PySem.W.nsIn K mainGlobals "fits_row" = some (some (.ref f6))) (l6 : K.lookup f6 = some ⟨oc6, od6, .func (PySem.W.fnOf "fits_row" "fits_row" (defArgs (topS 14)) (defBody (topS 14)) (defScope (topS 14)) .none kV6 dc6 pm6 an6 cd6 ct6), sl6⟩) (c6 : PySem.W.codeIn K cd6 "fits_row" = true) (k6 : PySem.W.keepIn K (.ref f6) = true)
    (a7 : PySem.W.nsIn K mainGlobals "rows_in" = some (some (.ref f7))) (l7 : K.lookup f7 = some ⟨oc7, od7, .func (PySem.W.fnOf "rows_in" "rows_in" (defArgs (topS 15)) (defBody (topS 15)) (defScope (topS 15)) .none kV7 dc7 pm7 an7 cd7 ct7), sl7⟩) (c7 : PySem.W.codeIn K cd7 "rows_in" = true) (k7 : PySem.W.keepIn K (.ref f7) = true)
    (a8 : PySem.W.nsIn K mainGlobals "number_in" = some (some (.ref f8))) (l8 : K.lookup f8 = some ⟨oc8, od8, .func (PySem.W.fnOf "number_in" "number_in" (defArgs (topS 16)) (defBody (topS 16)) (defScope (topS 16)) .none kV8 dc8 pm8 an8 cd8 ct8), sl8⟩) (c8 : PySem.W.codeIn K cd8 "number_in" = true) (k8 : PySem.W.keepIn K (.ref f8) = true)
    (a9 : PySem.W.nsIn K mainGlobals "answer_in" = some (some (.ref f9))) (l9 : K.lookup f9 = some ⟨oc9, od9, .func (PySem.W.fnOf "answer_in" "answer_in" (defArgs (topS 17)) (defBody (topS 17)) (defScope (topS 17)) .none kV9 dc9 pm9 an9 cd9 ct9), sl9⟩) (c9 : PySem.W.codeIn K cd9 "answer_in" = true) (k9 : PySem.W.keepIn K (.ref f9) = true)
    (a10 : PySem.W.nsIn K mainGlobals "fits_net" = some (some (.ref f10))) (l10 : K.lookup f10 = some ⟨oc10, od10, .func (PySem.W.fnOf "fits_net" "fits_net" (defArgs (topS 20)) (defBody (topS 20)) (defScope (topS 20)) .none kV10 dc10 pm10 an10 cd10 ct10), sl10⟩) (c10 : PySem.W.codeIn K cd10 "fits_net" = true) (k10 : PySem.W.keepIn K (.ref f10) = true)
    (a11 : PySem.W.nsIn K mainGlobals "need_net" = some (some (.ref f11))) (l11 : K.lookup f11 = some ⟨oc11, od11, .func (PySem.W.fnOf "need_net" "need_net" (defArgs (topS 21)) (defBody (topS 21)) (defScope (topS 21)) .none kV11 dc11 pm11 an11 cd11 ct11), sl11⟩) (c11 : PySem.W.codeIn K cd11 "need_net" = true) (k11 : PySem.W.keepIn K (.ref f11) = true)
    (a12 : PySem.W.nsIn K mainGlobals "need_row_of" = some (some (.ref f12))) (l12 : K.lookup f12 = some ⟨oc12, od12, .func (PySem.W.fnOf "need_row_of" "need_row_of" (defArgs (topS 22)) (defBody (topS 22)) (defScope (topS 22)) .none kV12 dc12 pm12 an12 cd12 ct12), sl12⟩) (c12 : PySem.W.codeIn K cd12 "need_row_of" = true) (k12 : PySem.W.keepIn K (.ref f12) = true)
    (a13 : PySem.W.nsIn K mainGlobals "step_in" = some (some (.ref f13))) (l13 : K.lookup f13 = some ⟨oc13, od13, .func (PySem.W.fnOf "step_in" "step_in" (defArgs (topS 23)) (defBody (topS 23)) (defScope (topS 23)) .none kV13 dc13 pm13 an13 cd13 ct13), sl13⟩) (c13 : PySem.W.codeIn K cd13 "step_in" = true) (k13 : PySem.W.keepIn K (.ref f13) = true)
    (a14 : PySem.W.nsIn K mainGlobals "steps_from" = some (some (.ref f14))) (l14 : K.lookup f14 = some ⟨oc14, od14, .func (PySem.W.fnOf "steps_from" "steps_from" (defArgs (topS 24)) (defBody (topS 24)) (defScope (topS 24)) .none kV14 dc14 pm14 an14 cd14 ct14), sl14⟩) (c14 : PySem.W.codeIn K cd14 "steps_from" = true) (k14 : PySem.W.keepIn K (.ref f14) = true)
    (a15 : PySem.W.nsIn K mainGlobals "from_least" = some (some (.ref f15))) (l15 : K.lookup f15 = some ⟨oc15, od15, .func (PySem.W.fnOf "from_least" "from_least" (defArgs (topS 25)) (defBody (topS 25)) (defScope (topS 25)) .none kV15 dc15 pm15 an15 cd15 ct15), sl15⟩) (c15 : PySem.W.codeIn K cd15 "from_least" = true) (k15 : PySem.W.keepIn K (.ref f15) = true)
    (a16 : PySem.W.nsIn K mainGlobals "next_row" = some (some (.ref f16))) (l16 : K.lookup f16 = some ⟨oc16, od16, .func (PySem.W.fnOf "next_row" "next_row" (defArgs (topS 26)) (defBody (topS 26)) (defScope (topS 26)) .none kV16 dc16 pm16 an16 cd16 ct16), sl16⟩) (c16 : PySem.W.codeIn K cd16 "next_row" = true) (k16 : PySem.W.keepIn K (.ref f16) = true)
    (a17 : PySem.W.nsIn K mainGlobals "tail_length" = some (some (.ref f17))) (l17 : K.lookup f17 = some ⟨oc17, od17, .func (PySem.W.fnOf "tail_length" "tail_length" (defArgs (topS 27)) (defBody (topS 27)) (defScope (topS 27)) .none kV17 dc17 pm17 an17 cd17 ct17), sl17⟩) (c17 : PySem.W.codeIn K cd17 "tail_length" = true) (k17 : PySem.W.keepIn K (.ref f17) = true)
    (a18 : PySem.W.nsIn K mainGlobals "round_from" = some (some (.ref f18))) (l18 : K.lookup f18 = some ⟨oc18, od18, .func (PySem.W.fnOf "round_from" "round_from" (defArgs (topS 28)) (defBody (topS 28)) (defScope (topS 28)) .none kV18 dc18 pm18 an18 cd18 ct18), sl18⟩) (c18 : PySem.W.codeIn K cd18 "round_from" = true) (k18 : PySem.W.keepIn K (.ref f18) = true)
    (a19 : PySem.W.nsIn K mainGlobals "rounds_in" = some (some (.ref f19))) (l19 : K.lookup f19 = some ⟨oc19, od19, .func (PySem.W.fnOf "rounds_in" "rounds_in" (defArgs (topS 30)) (defBody (topS 30)) (defScope (topS 30)) .none kV19 dc19 pm19 an19 cd19 ct19), sl19⟩) (c19 : PySem.W.codeIn K cd19 "rounds_in" = true) (k19 : PySem.W.keepIn K (.ref f19) = true)
    (a20 : PySem.W.nsIn K mainGlobals "all_rounds" = some (some (.ref f20))) (l20 : K.lookup f20 = some ⟨oc20, od20, .func (PySem.W.fnOf "all_rounds" "all_rounds" (defArgs (topS 31)) (defBody (topS 31)) (defScope (topS 31)) .none kV20 dc20 pm20 an20 cd20 ct20), sl20⟩) (c20 : PySem.W.codeIn K cd20 "all_rounds" = true) (k20 : PySem.W.keepIn K (.ref f20) = true)
    (a21 : PySem.W.nsIn K mainGlobals "still_rows" = some (some (.ref f21))) (l21 : K.lookup f21 = some ⟨oc21, od21, .func (PySem.W.fnOf "still_rows" "still_rows" (defArgs (topS 32)) (defBody (topS 32)) (defScope (topS 32)) .none kV21 dc21 pm21 an21 cd21 ct21), sl21⟩) (c21 : PySem.W.codeIn K cd21 "still_rows" = true) (k21 : PySem.W.keepIn K (.ref f21) = true)
    (a22 : PySem.W.nsIn K mainGlobals "garden_rows" = some (some (.ref f22))) (l22 : K.lookup f22 = some ⟨oc22, od22, .func (PySem.W.fnOf "garden_rows" "garden_rows" (defArgs (topS 33)) (defBody (topS 33)) (defScope (topS 33)) .none kV22 dc22 pm22 an22 cd22 ct22), sl22⟩) (c22 : PySem.W.codeIn K cd22 "garden_rows" = true) (k22 : PySem.W.keepIn K (.ref f22) = true)
    (a23 : PySem.W.nsIn K mainGlobals "lots_of_rounds" = some (some (.ref f23))) (l23 : K.lookup f23 = some ⟨oc23, od23, .func (PySem.W.fnOf "lots_of_rounds" "lots_of_rounds" (defArgs (topS 34)) (defBody (topS 34)) (defScope (topS 34)) .none kV23 dc23 pm23 an23 cd23 ct23), sl23⟩) (c23 : PySem.W.codeIn K cd23 "lots_of_rounds" = true) (k23 : PySem.W.keepIn K (.ref f23) = true)
    (a24 : PySem.W.nsIn K mainGlobals "longest_tail" = some (some (.ref f24))) (l24 : K.lookup f24 = some ⟨oc24, od24, .func (PySem.W.fnOf "longest_tail" "longest_tail" (defArgs (topS 35)) (defBody (topS 35)) (defScope (topS 35)) .none kV24 dc24 pm24 an24 cd24 ct24), sl24⟩) (c24 : PySem.W.codeIn K cd24 "longest_tail" = true) (k24 : PySem.W.keepIn K (.ref f24) = true)
    (a25 : PySem.W.nsIn K mainGlobals "_law_cup" = some (some (.ref f25))) (l25 : K.lookup f25 = some ⟨oc25, od25, .func (PySem.W.fnOf "_law_cup" "_law_cup" (defArgs (topS 37)) (defBody (topS 37)) (defScope (topS 37)) .none kV25 dc25 pm25 an25 cd25 ct25), sl25⟩) (c25 : PySem.W.codeIn K cd25 "_law_cup" = true) (k25 : PySem.W.keepIn K (.ref f25) = true)
    (a26 : PySem.W.nsIn K mainGlobals "_law_roll" = some (some (.ref f26))) (l26 : K.lookup f26 = some ⟨oc26, od26, .func (PySem.W.fnOf "_law_roll" "_law_roll" (defArgs (topS 38)) (defBody (topS 38)) (defScope (topS 38)) .none kV26 dc26 pm26 an26 cd26 ct26), sl26⟩) (c26 : PySem.W.codeIn K cd26 "_law_roll" = true) (k26 : PySem.W.keepIn K (.ref f26) = true)
    (a27 : PySem.W.nsIn K mainGlobals "_law_some" = some (some (.ref f27))) (l27 : K.lookup f27 = some ⟨oc27, od27, .func (PySem.W.fnOf "_law_some" "_law_some" (defArgs (topS 39)) (defBody (topS 39)) (defScope (topS 39)) .none kV27 dc27 pm27 an27 cd27 ct27), sl27⟩) (c27 : PySem.W.codeIn K cd27 "_law_some" = true) (k27 : PySem.W.keepIn K (.ref f27) = true)
    (a28 : PySem.W.nsIn K mainGlobals "_law_sort" = some (some (.ref f28))) (l28 : K.lookup f28 = some ⟨oc28, od28, .func (PySem.W.fnOf "_law_sort" "_law_sort" (defArgs (topS 40)) (defBody (topS 40)) (defScope (topS 40)) .none kV28 dc28 pm28 an28 cd28 ct28), sl28⟩) (c28 : PySem.W.codeIn K cd28 "_law_sort" = true) (k28 : PySem.W.keepIn K (.ref f28) = true)
    (a29 : PySem.W.nsIn K mainGlobals "_law_like" = some (some (.ref f29))) (l29 : K.lookup f29 = some ⟨oc29, od29, .func (PySem.W.fnOf "_law_like" "_law_like" (defArgs (topS 41)) (defBody (topS 41)) (defScope (topS 41)) .none kV29 dc29 pm29 an29 cd29 ct29), sl29⟩) (c29 : PySem.W.codeIn K cd29 "_law_like" = true) (k29 : PySem.W.keepIn K (.ref f29) = true)
    (a30 : PySem.W.nsIn K mainGlobals "_law_rows" = some (some (.ref f30))) (l30 : K.lookup f30 = some ⟨oc30, od30, .func (PySem.W.fnOf "_law_rows" "_law_rows" (defArgs (topS 42)) (defBody (topS 42)) (defScope (topS 42)) .none kV30 dc30 pm30 an30 cd30 ct30), sl30⟩) (c30 : PySem.W.codeIn K cd30 "_law_rows" = true) (k30 : PySem.W.keepIn K (.ref f30) = true)
    (a31 : PySem.W.nsIn K mainGlobals "_law_number" = some (some (.ref f31))) (l31 : K.lookup f31 = some ⟨oc31, od31, .func (PySem.W.fnOf "_law_number" "_law_number" (defArgs (topS 43)) (defBody (topS 43)) (defScope (topS 43)) .none kV31 dc31 pm31 an31 cd31 ct31), sl31⟩) (c31 : PySem.W.codeIn K cd31 "_law_number" = true) (k31 : PySem.W.keepIn K (.ref f31) = true)
    (a32 : PySem.W.nsIn K mainGlobals "_law_at" = some (some (.ref f32))) (l32 : K.lookup f32 = some ⟨oc32, od32, .func (PySem.W.fnOf "_law_at" "_law_at" (defArgs (topS 44)) (defBody (topS 44)) (defScope (topS 44)) .none kV32 dc32 pm32 an32 cd32 ct32), sl32⟩) (c32 : PySem.W.codeIn K cd32 "_law_at" = true) (k32 : PySem.W.keepIn K (.ref f32) = true)
    (a33 : PySem.W.nsIn K mainGlobals "_law_net" = some (some (.ref f33))) (l33 : K.lookup f33 = some ⟨oc33, od33, .func (PySem.W.fnOf "_law_net" "_law_net" (defArgs (topS 45)) (defBody (topS 45)) (defScope (topS 45)) .none kV33 dc33 pm33 an33 cd33 ct33), sl33⟩) (c33 : PySem.W.codeIn K cd33 "_law_net" = true) (k33 : PySem.W.keepIn K (.ref f33) = true)
    (a34 : PySem.W.nsIn K mainGlobals "_law_step" = some (some (.ref f34))) (l34 : K.lookup f34 = some ⟨oc34, od34, .func (PySem.W.fnOf "_law_step" "_law_step" (defArgs (topS 46)) (defBody (topS 46)) (defScope (topS 46)) .none kV34 dc34 pm34 an34 cd34 ct34), sl34⟩) (c34 : PySem.W.codeIn K cd34 "_law_step" = true) (k34 : PySem.W.keepIn K (.ref f34) = true)
    (a35 : PySem.W.nsIn K mainGlobals "_law_walk" = some (some (.ref f35))) (l35 : K.lookup f35 = some ⟨oc35, od35, .func (PySem.W.fnOf "_law_walk" "_law_walk" (defArgs (topS 47)) (defBody (topS 47)) (defScope (topS 47)) .none kV35 dc35 pm35 an35 cd35 ct35), sl35⟩) (c35 : PySem.W.codeIn K cd35 "_law_walk" = true) (k35 : PySem.W.keepIn K (.ref f35) = true)
    (a36 : PySem.W.nsIn K mainGlobals "_law_right" = some (some (.ref f36))) (l36 : K.lookup f36 = some ⟨oc36, od36, .func (PySem.W.fnOf "_law_right" "_law_right" (defArgs (topS 48)) (defBody (topS 48)) (defScope (topS 48)) .none kV36 dc36 pm36 an36 cd36 ct36), sl36⟩) (c36 : PySem.W.codeIn K cd36 "_law_right" = true) (k36 : PySem.W.keepIn K (.ref f36) = true)
    (a37 : PySem.W.nsIn K mainGlobals "_law_turned_right" = some (some (.ref f37))) (l37 : K.lookup f37 = some ⟨oc37, od37, .func (PySem.W.fnOf "_law_turned_right" "_law_turned_right" (defArgs (topS 49)) (defBody (topS 49)) (defScope (topS 49)) .none kV37 dc37 pm37 an37 cd37 ct37), sl37⟩) (c37 : PySem.W.codeIn K cd37 "_law_turned_right" = true) (k37 : PySem.W.keepIn K (.ref f37) = true)
    (a38 : PySem.W.nsIn K mainGlobals "law" = some (some (.ref f38))) (l38 : K.lookup f38 = some ⟨oc38, od38, .func (PySem.W.fnOf "law" "law" (defArgs (topS 50)) (defBody (topS 50)) (defScope (topS 50)) .none kV38 dc38 pm38 an38 cd38 ct38), sl38⟩) (c38 : PySem.W.codeIn K cd38 "law" = true) (k38 : PySem.W.keepIn K (.ref f38) = true)
    (v0 : PySem.W.nsIn K mainGlobals "ANSWERS" = some (some u0)) (w0 : RelV (.str "01") u0)
    (v1 : PySem.W.nsIn K mainGlobals "LENGTHS" = some (some (.ref q1))) (w1 : K.lookup q1 = some ob1) (x1 : ob1.cls = .type "tuple" ∧ ob1.dict = none ∧ ob1.data = .seq its1 n1) (y1 : its1.size ≤ sizeLine ∧ Vals [.int 1, .int 2, .int 4, .int 8, .int 16, .int 32, .int 64] its1.toList)
    (v2 : PySem.W.nsIn K mainGlobals "MOST" = some (some u2)) (w2 : RelV (.int 6) u2)
    (v3 : PySem.W.nsIn K mainGlobals "MOST_SIGNS" = some (some u3)) (w3 : RelV (.int 5) u3)
    (z0 : PySem.W.nsIn K mainGlobals "abs" = some none)
    (z1 : PySem.W.nsIn K mainGlobals "all" = some none)
    (z2 : PySem.W.nsIn K mainGlobals "bool" = some none)
    (z3 : PySem.W.nsIn K mainGlobals "dict" = some none)
    (z4 : PySem.W.nsIn K mainGlobals "int" = some none)
    (z5 : PySem.W.nsIn K mainGlobals "isinstance" = some none)
    (z6 : PySem.W.nsIn K mainGlobals "len" = some none)
    (z7 : PySem.W.nsIn K mainGlobals "list" = some none)
    (z8 : PySem.W.nsIn K mainGlobals "max" = some none)
    (z9 : PySem.W.nsIn K mainGlobals "min" = some none)
    (z10 : PySem.W.nsIn K mainGlobals "range" = some none)
    (z11 : PySem.W.nsIn K mainGlobals "set" = some none)
    (z12 : PySem.W.nsIn K mainGlobals "sorted" = some none)
    (z13 : PySem.W.nsIn K mainGlobals "str" = some none)
    (z14 : PySem.W.nsIn K mainGlobals "tuple" = some none)
    (z15 : PySem.W.nsIn K mainGlobals "zip" = some none)
    (math : ∀ ns : List Int, ns.length ≤ 63 → ∃ st', callD tbl 60 38 [.d (.list (ns.map .int))] [] = .ok (.d (.bool true)) st') :
    ∃ fd : FuncData, (∀ (s : Shared) (v : Value), BindsTo s fd ⟨[v], []⟩ [("script", v)]) ∧ ∀ base : Heap, K.In base → base.Ns mainGlobals mg → FnOk P w K mg base CX0 60 fa fd ["script"] (spLaw K) := by
  have e := hfa.symm.trans (PySem.W.mg_of X Gn a38)
  cases e
  refine ⟨PySem.W.fnOf "law" "law" (defArgs (topS 50)) (defBody (topS 50)) (defScope (topS 50)) .none kV38 dc38 pm38 an38 cd38 ct38, fun s v => .of_eq rfl, fun base hb hn => ?_⟩
  let g : Ev.G := { P := P, w := w, K := K, mg := mg, base := base, at_ := fun i => [f0, f1, f2, f3, f4, f5, f6, f7, f8, f9, f10, f11, f12, f13, f14, f15, f16, f17, f18, f19, f20, f21, f22, f23, f24, f25, f26, f27, f28, f29, f30, f31, f32, f33, f34, f35, f36, f37, fa].getD i 0 }
  have hgl : GlOk g gl tbl := by
    refine gl_ok ?_
    refine ⟨PySem.W.mg_of X Gn a0, PySem.W.mg_of X Gn a1, PySem.W.mg_of X Gn a2, PySem.W.mg_of X Gn a3, PySem.W.mg_of X Gn a4, PySem.W.mg_of X Gn a5, PySem.W.mg_of X Gn a6, PySem.W.mg_of X Gn a7, PySem.W.mg_of X Gn a8, PySem.W.mg_of X Gn a9, PySem.W.mg_of X Gn a10, PySem.W.mg_of X Gn a11, PySem.W.mg_of X Gn a12, PySem.W.mg_of X Gn a13, PySem.W.mg_of X Gn a14, PySem.W.mg_of X Gn a15, PySem.W.mg_of X Gn a16, PySem.W.mg_of X Gn a17, PySem.W.mg_of X Gn a18, PySem.W.mg_of X Gn a19, PySem.W.mg_of X Gn a20, PySem.W.mg_of X Gn a21, PySem.W.mg_of X Gn a22, PySem.W.mg_of X Gn a23, PySem.W.mg_of X Gn a24, PySem.W.mg_of X Gn a25, PySem.W.mg_of X Gn a26, PySem.W.mg_of X Gn a27, PySem.W.mg_of X Gn a28, PySem.W.mg_of X Gn a29, PySem.W.mg_of X Gn a30, PySem.W.mg_of X Gn a31, PySem.W.mg_of X Gn a32, PySem.W.mg_of X Gn a33, PySem.W.mg_of X Gn a34, PySem.W.mg_of X Gn a35, PySem.W.mg_of X Gn a36, PySem.W.mg_of X Gn a37, PySem.W.mg_of X Gn a38, ⟨_, _, PySem.W.mg_of X Gn v0, w0, fun F => .str _, (fun z => by cases z)⟩, ⟨.ref q1, _, PySem.W.mg_of X Gn v1, rfl, fun F => .tup (.inr ⟨ob1, its1, n1, w1, x1.1, x1.2.2, y1.1, y1.2⟩) (by repeat (first | exact .nil | exact .cons (.int _) .nil | refine .cons (.int _) ?_ | refine .cons (.str _) ?_)), fun _ => ⟨q1, ob1, rfl, w1, x1.1, x1.2.1⟩⟩, ⟨_, _, PySem.W.mg_of X Gn v2, w2, fun F => .int _, (fun z => by cases z)⟩, ⟨_, _, PySem.W.mg_of X Gn v3, w3, fun F => .int _, (fun z => by cases z)⟩, ⟨by decide +kernel, PySem.W.mg_none_of X Gn z0⟩, ⟨by decide +kernel, PySem.W.mg_none_of X Gn z1⟩, ⟨by decide +kernel, PySem.W.mg_none_of X Gn z2⟩, ⟨by decide +kernel, PySem.W.mg_none_of X Gn z3⟩, ⟨by decide +kernel, PySem.W.mg_none_of X Gn z4⟩, ⟨by decide +kernel, PySem.W.mg_none_of X Gn z5⟩, ⟨by decide +kernel, PySem.W.mg_none_of X Gn z6⟩, ⟨by decide +kernel, PySem.W.mg_none_of X Gn z7⟩, ⟨by decide +kernel, PySem.W.mg_none_of X Gn z8⟩, ⟨by decide +kernel, PySem.W.mg_none_of X Gn z9⟩, ⟨by decide +kernel, PySem.W.mg_none_of X Gn z10⟩, ⟨by decide +kernel, PySem.W.mg_none_of X Gn z11⟩, ⟨by decide +kernel, PySem.W.mg_none_of X Gn z12⟩, ⟨by decide +kernel, PySem.W.mg_none_of X Gn z13⟩, ⟨by decide +kernel, PySem.W.mg_none_of X Gn z14⟩, ⟨by decide +kernel, PySem.W.mg_none_of X Gn z15⟩, trivial⟩
  have hd : ∀ i fd, tbl[i]? = some fd → DefIs g tbl gl i fd := by
    refine at_all ?_
    refine ⟨def_is (C := C0) (ps := ["value"]) (fun_mk (st := topS 8) l0 c0 k0) (by rfl) (by intro _ _ _ _ _ _ us hl; exact match us, hl with | [_], _ => rfl) sc0 rfl rfl rfl some0 rfl rfl rfl, def_is (C := C1) (ps := ["value", "low", "high"]) (fun_mk (st := topS 9) l1 c1 k1) (by rfl) (by intro _ _ _ _ _ _ us hl; exact match us, hl with | [_, _, _], _ => rfl) sc1 rfl rfl rfl some1 rfl rfl rfl, def_is (C := C2) (ps := ["value", "low", "high"]) (fun_mk (st := topS 10) l2 c2 k2) (by rfl) (by intro _ _ _ _ _ _ us hl; exact match us, hl with | [_, _, _], _ => rfl) sc2 rfl rfl rfl some2 rfl rfl rfl, def_is (C := C3) (ps := ["value", "signs", "low", "high"]) (fun_mk (st := topS 11) l3 c3 k3) (by rfl) (by intro _ _ _ _ _ _ us hl; exact match us, hl with | [_, _, _, _], _ => rfl) sc3 rfl rfl rfl some3 rfl rfl rfl, def_is (C := C4) (ps := ["value"]) (fun_mk (st := topS 12) l4 c4 k4) (by rfl) (by intro _ _ _ _ _ _ us hl; exact match us, hl with | [_], _ => rfl) sc4 rfl rfl rfl some4 rfl rfl rfl, def_is (C := C5) (ps := ["function"]) (fun_mk (st := topS 13) l5 c5 k5) (by rfl) (by intro _ _ _ _ _ _ us hl; exact match us, hl with | [_], _ => rfl) sc5 rfl rfl rfl some5 rfl rfl rfl, def_is (C := C6) (ps := ["many", "value"]) (fun_mk (st := topS 14) l6 c6 k6) (by rfl) (by intro _ _ _ _ _ _ us hl; exact match us, hl with | [_, _], _ => rfl) sc6 rfl rfl rfl some6 rfl rfl rfl, def_is (C := C7) (ps := ["many"]) (fun_mk (st := topS 15) l7 c7 k7) (by rfl) (by intro _ _ _ _ _ _ us hl; exact match us, hl with | [_], _ => rfl) sc7 rfl rfl rfl some7 rfl rfl rfl, def_is (C := C8) (ps := ["row"]) (fun_mk (st := topS 16) l8 c8 k8) (by rfl) (by intro _ _ _ _ _ _ us hl; exact match us, hl with | [_], _ => rfl) sc8 rfl rfl rfl some8 rfl rfl rfl, def_is (C := C9) (ps := ["function", "row"]) (fun_mk (st := topS 17) l9 c9 k9) (by rfl) (by intro _ _ _ _ _ _ us hl; exact match us, hl with | [_, _], _ => rfl) sc9 rfl rfl rfl some9 rfl rfl rfl, def_is (C := C10) (ps := ["value"]) (fun_mk (st := topS 20) l10 c10 k10) (by rfl) (by intro _ _ _ _ _ _ us hl; exact match us, hl with | [_], _ => rfl) sc10 rfl rfl rfl some10 rfl rfl rfl, def_is (C := C11) (ps := ["value"]) (fun_mk (st := topS 21) l11 c11 k11) (by rfl) (by intro _ _ _ _ _ _ us hl; exact match us, hl with | [_], _ => rfl) sc11 rfl rfl rfl some11 rfl rfl rfl, def_is (C := C12) (ps := ["net", "value"]) (fun_mk (st := topS 22) l12 c12 k12) (by rfl) (by intro _ _ _ _ _ _ us hl; exact match us, hl with | [_, _], _ => rfl) sc12 rfl rfl rfl some12 rfl rfl rfl, def_is (C := C13) (ps := ["net", "row"]) (fun_mk (st := topS 23) l13 c13 k13) (by rfl) (by intro _ _ _ _ _ _ us hl; exact match us, hl with | [_, _], _ => rfl) sc13 rfl rfl rfl some13 rfl rfl rfl, def_is (C := C14) (ps := ["net", "row"]) (fun_mk (st := topS 24) l14 c14 k14) (by rfl) (by intro _ _ _ _ _ _ us hl; exact match us, hl with | [_, _], _ => rfl) sc14 rfl rfl rfl some14 rfl rfl rfl, def_is (C := C15) (ps := ["rows"]) (fun_mk (st := topS 25) l15 c15 k15) (by rfl) (by intro _ _ _ _ _ _ us hl; exact match us, hl with | [_], _ => rfl) sc15 rfl rfl rfl some15 rfl rfl rfl, def_is (C := C16) (ps := ["net", "row"]) (fun_mk (st := topS 26) l16 c16 k16) (by rfl) (by intro _ _ _ _ _ _ us hl; exact match us, hl with | [_, _], _ => rfl) sc16 rfl rfl rfl some16 rfl rfl rfl, def_is (C := C17) (ps := ["net", "row"]) (fun_mk (st := topS 27) l17 c17 k17) (by rfl) (by intro _ _ _ _ _ _ us hl; exact match us, hl with | [_, _], _ => rfl) sc17 rfl rfl rfl some17 rfl rfl rfl, def_is (C := C18) (ps := ["net", "row"]) (fun_mk (st := topS 28) l18 c18 k18) (by rfl) (by intro _ _ _ _ _ _ us hl; exact match us, hl with | [_, _], _ => rfl) sc18 rfl rfl rfl some18 rfl rfl rfl, def_is (C := C19) (ps := ["net"]) (fun_mk (st := topS 30) l19 c19 k19) (by rfl) (by intro _ _ _ _ _ _ us hl; exact match us, hl with | [_], _ => rfl) sc19 rfl rfl rfl some19 rfl rfl rfl, def_is (C := C20) (ps := ["net"]) (fun_mk (st := topS 31) l20 c20 k20) (by rfl) (by intro _ _ _ _ _ _ us hl; exact match us, hl with | [_], _ => rfl) sc20 rfl rfl rfl some20 rfl rfl rfl, def_is (C := C21) (ps := ["net"]) (fun_mk (st := topS 32) l21 c21 k21) (by rfl) (by intro _ _ _ _ _ _ us hl; exact match us, hl with | [_], _ => rfl) sc21 rfl rfl rfl some21 rfl rfl rfl, def_is (C := C22) (ps := ["net"]) (fun_mk (st := topS 33) l22 c22 k22) (by rfl) (by intro _ _ _ _ _ _ us hl; exact match us, hl with | [_], _ => rfl) sc22 rfl rfl rfl some22 rfl rfl rfl, def_is (C := C23) (ps := ["net"]) (fun_mk (st := topS 34) l23 c23 k23) (by rfl) (by intro _ _ _ _ _ _ us hl; exact match us, hl with | [_], _ => rfl) sc23 rfl rfl rfl some23 rfl rfl rfl, def_is (C := C24) (ps := ["net"]) (fun_mk (st := topS 35) l24 c24 k24) (by rfl) (by intro _ _ _ _ _ _ us hl; exact match us, hl with | [_], _ => rfl) sc24 rfl rfl rfl some24 rfl rfl rfl, def_is (C := C25) (ps := ["script"]) (fun_mk (st := topS 37) l25 c25 k25) (by rfl) (by intro _ _ _ _ _ _ us hl; exact match us, hl with | [_], _ => rfl) sc25 rfl rfl rfl some25 rfl rfl rfl, def_is (C := C26) (ps := ["cup", "many"]) (fun_mk (st := topS 38) l26 c26 k26) (by rfl) (by intro _ _ _ _ _ _ us hl; exact match us, hl with | [_, _], _ => rfl) sc26 rfl rfl rfl some26 rfl rfl rfl, def_is (C := C27) (ps := ["cup", "things"]) (fun_mk (st := topS 39) l27 c27 k27) (by rfl) (by intro _ _ _ _ _ _ us hl; exact match us, hl with | [_, _], _ => rfl) sc27 rfl rfl rfl some27 rfl rfl rfl, def_is (C := C28) (ps := ["value"]) (fun_mk (st := topS 40) l28 c28 k28) (by rfl) (by intro _ _ _ _ _ _ us hl; exact match us, hl with | [_], _ => rfl) sc28 rfl rfl rfl some28 rfl rfl rfl, def_is (C := C29) (ps := ["one", "other"]) (fun_mk (st := topS 41) l29 c29 k29) (by rfl) (by intro _ _ _ _ _ _ us hl; exact match us, hl with | [_, _], _ => rfl) sc29 rfl rfl rfl some29 rfl rfl rfl, def_is (C := C30) (ps := ["many"]) (fun_mk (st := topS 42) l30 c30 k30) (by rfl) (by intro _ _ _ _ _ _ us hl; exact match us, hl with | [_], _ => rfl) sc30 rfl rfl rfl some30 rfl rfl rfl, def_is (C := C31) (ps := ["row"]) (fun_mk (st := topS 43) l31 c31 k31) (by rfl) (by intro _ _ _ _ _ _ us hl; exact match us, hl with | [_], _ => rfl) sc31 rfl rfl rfl some31 rfl rfl rfl, def_is (C := C32) (ps := ["function", "row"]) (fun_mk (st := topS 44) l32 c32 k32) (by rfl) (by intro _ _ _ _ _ _ us hl; exact match us, hl with | [_, _], _ => rfl) sc32 rfl rfl rfl some32 rfl rfl rfl, def_is (C := C33) (ps := ["cup", "most"]) (fun_mk (st := topS 45) l33 c33 k33) (by rfl) (by intro _ _ _ _ _ _ us hl; exact match us, hl with | [_, _], _ => rfl) sc33 rfl rfl rfl some33 rfl rfl rfl, def_is (C := C34) (ps := ["net", "row"]) (fun_mk (st := topS 46) l34 c34 k34) (by rfl) (by intro _ _ _ _ _ _ us hl; exact match us, hl with | [_, _], _ => rfl) sc34 rfl rfl rfl some34 rfl rfl rfl, def_is (C := C35) (ps := ["net", "row"]) (fun_mk (st := topS 47) l35 c35 k35) (by rfl) (by intro _ _ _ _ _ _ us hl; exact match us, hl with | [_, _], _ => rfl) sc35 rfl rfl rfl some35 rfl rfl rfl, def_is (C := C36) (ps := ["net"]) (fun_mk (st := topS 48) l36 c36 k36) (by rfl) (by intro _ _ _ _ _ _ us hl; exact match us, hl with | [_], _ => rfl) sc36 rfl rfl rfl some36 rfl rfl rfl, def_is (C := C37) (ps := ["cup", "net"]) (fun_mk (st := topS 49) l37 c37 k37) (by rfl) (by intro _ _ _ _ _ _ us hl; exact match us, hl with | [_, _], _ => rfl) sc37 rfl rfl rfl some37 rfl rfl rfl, def_is (C := C38) (ps := ["script"]) (fun_mk (st := topS 50) l38 c38 k38) (by rfl) (by intro _ _ _ _ _ _ us hl; exact match us, hl with | [_], _ => rfl) sc38 rfl rfl rfl some38 rfl rfl rfl, trivial⟩
  exact law_imp (k := 60) (fun i => [f0, f1, f2, f3, f4, f5, f6, f7, f8, f9, f10, f11, f12, f13, f14, f15, f16, f17, f18, f19, f20, f21, f22, f23, f24, f25, f26, f27, f28, f29, f30, f31, f32, f33, f34, f35, f36, f37, fa].getD i 0) (fn_core (k := 59) hgl (i := 38) (fd := fd38) rfl (defs_ok hgl hd 59) (C := C38) (fun_mk (st := topS 50) l38 c38 k38) sc38 rfl rfl rfl (sem_is (C := C38) (st := topS 50) some38 rfl) rfl rfl) math
end Law
open PySem PySem.W PyProof.Rows
set_option maxHeartbeats 0 in
theorem PySem.Challenge.cw_truthtold_k81_whole_rounds_of_nets_holds : PySem.Challenge.rw_truthtold_k81_whole_rounds_of_nets.Holds := by
  w_on; o_law; k_head; (case hw => w_witness2)
  k_fill
  refine L2.walk_of (l := PySem.Challenge.rw_truthtold_k81_whole_rounds_of_nets) (n := 63) (k := 60) (x := "script") (CX := fun _ => L2.CX0) (sp := fun w => Ev.spLaw _) rfl (by decide) rfl ⟨rfl, by decide, by decide⟩ (fun w h Y => PySem.W.kIn_of Y) ?F (fun _ _ a ns hl _ hS => ⟨a, ns, rfl, hS, hl, fun _ _ e => e⟩) (fun _ _ _ _ _ h => h)
  case F =>
    intro w mg fa h KX G hmg
    refine' Law.law_mk KX G hmg ?a0 ?l0 ?c0 ?k0 ?a1 ?l1 ?c1 ?k1 ?a2 ?l2 ?c2 ?k2 ?a3 ?l3 ?c3 ?k3 ?a4 ?l4 ?c4 ?k4 ?a5 ?l5 ?c5 ?k5 ?a6 ?l6 ?c6 ?k6 ?a7 ?l7 ?c7 ?k7 ?a8 ?l8 ?c8 ?k8 ?a9 ?l9 ?c9 ?k9 ?a10 ?l10 ?c10 ?k10 ?a11 ?l11 ?c11 ?k11 ?a12 ?l12 ?c12 ?k12 ?a13 ?l13 ?c13 ?k13 ?a14 ?l14 ?c14 ?k14 ?a15 ?l15 ?c15 ?k15 ?a16 ?l16 ?c16 ?k16 ?a17 ?l17 ?c17 ?k17 ?a18 ?l18 ?c18 ?k18 ?a19 ?l19 ?c19 ?k19 ?a20 ?l20 ?c20 ?k20 ?a21 ?l21 ?c21 ?k21 ?a22 ?l22 ?c22 ?k22 ?a23 ?l23 ?c23 ?k23 ?a24 ?l24 ?c24 ?k24 ?a25 ?l25 ?c25 ?k25 ?a26 ?l26 ?c26 ?k26 ?a27 ?l27 ?c27 ?k27 ?a28 ?l28 ?c28 ?k28 ?a29 ?l29 ?c29 ?k29 ?a30 ?l30 ?c30 ?k30 ?a31 ?l31 ?c31 ?k31 ?a32 ?l32 ?c32 ?k32 ?a33 ?l33 ?c33 ?k33 ?a34 ?l34 ?c34 ?k34 ?a35 ?l35 ?c35 ?k35 ?a36 ?l36 ?c36 ?k36 ?a37 ?l37 ?c37 ?k37 ?a38 ?l38 ?c38 ?k38 ?v0 ?w0 ?v1 ?w1 ?x1 ?y1 ?v2 ?w2 ?v3 ?w3 ?z0 ?z1 ?z2 ?z3 ?z4 ?z5 ?z6 ?z7 ?z8 ?z9 ?z10 ?z11 ?z12 ?z13 ?z14 ?z15 Law.math
    (case a0 => k_is)
    (case l0 => k_is)
    (case c0 => k_is)
    (case k0 => k_is)
    (case a1 => k_is)
    (case l1 => k_is)
    (case c1 => k_is)
    (case k1 => k_is)
    (case a2 => k_is)
    (case l2 => k_is)
    (case c2 => k_is)
    (case k2 => k_is)
    (case a3 => k_is)
    (case l3 => k_is)
    (case c3 => k_is)
    (case k3 => k_is)
    (case a4 => k_is)
    (case l4 => k_is)
    (case c4 => k_is)
    (case k4 => k_is)
    (case a5 => k_is)
    (case l5 => k_is)
    (case c5 => k_is)
    (case k5 => k_is)
    (case a6 => k_is)
    (case l6 => k_is)
    (case c6 => k_is)
    (case k6 => k_is)
    (case a7 => k_is)
    (case l7 => k_is)
    (case c7 => k_is)
    (case k7 => k_is)
    (case a8 => k_is)
    (case l8 => k_is)
    (case c8 => k_is)
    (case k8 => k_is)
    (case a9 => k_is)
    (case l9 => k_is)
    (case c9 => k_is)
    (case k9 => k_is)
    (case a10 => k_is)
    (case l10 => k_is)
    (case c10 => k_is)
    (case k10 => k_is)
    (case a11 => k_is)
    (case l11 => k_is)
    (case c11 => k_is)
    (case k11 => k_is)
    (case a12 => k_is)
    (case l12 => k_is)
    (case c12 => k_is)
    (case k12 => k_is)
    (case a13 => k_is)
    (case l13 => k_is)
    (case c13 => k_is)
    (case k13 => k_is)
    (case a14 => k_is)
    (case l14 => k_is)
    (case c14 => k_is)
    (case k14 => k_is)
    (case a15 => k_is)
    (case l15 => k_is)
    (case c15 => k_is)
    (case k15 => k_is)
    (case a16 => k_is)
    (case l16 => k_is)
    (case c16 => k_is)
    (case k16 => k_is)
    (case a17 => k_is)
    (case l17 => k_is)
    (case c17 => k_is)
    (case k17 => k_is)
    (case a18 => k_is)
    (case l18 => k_is)
    (case c18 => k_is)
    (case k18 => k_is)
    (case a19 => k_is)
    (case l19 => k_is)
    (case c19 => k_is)
    (case k19 => k_is)
    (case a20 => k_is)
    (case l20 => k_is)
    (case c20 => k_is)
    (case k20 => k_is)
    (case a21 => k_is)
    (case l21 => k_is)
    (case c21 => k_is)
    (case k21 => k_is)
    (case a22 => k_is)
    (case l22 => k_is)
    (case c22 => k_is)
    (case k22 => k_is)
    (case a23 => k_is)
    (case l23 => k_is)
    (case c23 => k_is)
    (case k23 => k_is)
    (case a24 => k_is)
    (case l24 => k_is)
    (case c24 => k_is)
    (case k24 => k_is)
    (case a25 => k_is)
    (case l25 => k_is)
    (case c25 => k_is)
    (case k25 => k_is)
    (case a26 => k_is)
    (case l26 => k_is)
    (case c26 => k_is)
    (case k26 => k_is)
    (case a27 => k_is)
    (case l27 => k_is)
    (case c27 => k_is)
    (case k27 => k_is)
    (case a28 => k_is)
    (case l28 => k_is)
    (case c28 => k_is)
    (case k28 => k_is)
    (case a29 => k_is)
    (case l29 => k_is)
    (case c29 => k_is)
    (case k29 => k_is)
    (case a30 => k_is)
    (case l30 => k_is)
    (case c30 => k_is)
    (case k30 => k_is)
    (case a31 => k_is)
    (case l31 => k_is)
    (case c31 => k_is)
    (case k31 => k_is)
    (case a32 => k_is)
    (case l32 => k_is)
    (case c32 => k_is)
    (case k32 => k_is)
    (case a33 => k_is)
    (case l33 => k_is)
    (case c33 => k_is)
    (case k33 => k_is)
    (case a34 => k_is)
    (case l34 => k_is)
    (case c34 => k_is)
    (case k34 => k_is)
    (case a35 => k_is)
    (case l35 => k_is)
    (case c35 => k_is)
    (case k35 => k_is)
    (case a36 => k_is)
    (case l36 => k_is)
    (case c36 => k_is)
    (case k36 => k_is)
    (case a37 => k_is)
    (case l37 => k_is)
    (case c37 => k_is)
    (case k37 => k_is)
    (case a38 => k_is)
    (case l38 => k_is)
    (case c38 => k_is)
    (case k38 => k_is)
    (case z0 => k_is)
    (case z1 => k_is)
    (case z2 => k_is)
    (case z3 => k_is)
    (case z4 => k_is)
    (case z5 => k_is)
    (case z6 => k_is)
    (case z7 => k_is)
    (case z8 => k_is)
    (case z9 => k_is)
    (case z10 => k_is)
    (case z11 => k_is)
    (case z12 => k_is)
    (case z13 => k_is)
    (case z14 => k_is)
    (case z15 => k_is)
    (case v0 => k_is)
    (case w0 => exact ⟨_, rfl⟩)
    (case v1 => k_is)
    (case w1 => k_is); (case x1 => exact ⟨rfl, rfl, rfl⟩); (case y1 => refine ⟨by decide, ?_⟩; repeat (first | exact .nil | refine .cons ⟨_, rfl⟩ ?_))
    (case v2 => k_is)
    (case w2 => exact ⟨_, rfl⟩)
    (case v3 => k_is)
    (case w3 => exact ⟨_, rfl⟩)

