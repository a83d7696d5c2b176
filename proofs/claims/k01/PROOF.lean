import PyProof.Rows.All
import Wide.All
import OpenK.AllK
import Wide.FinOn
import HandS.ForMost
import HandS.Wide
import HandS.IsInst
import HandS.Walk
import HandS.Exc
import HandS.ExcOwn
import HandS.TryOnly
import HandS.WordsExc
import PyProof.Rows.SeqMore
import HandS.Text
import PyProof.MaxThree
import HandS.Dict
import HandS.Defaults
import KE.KStateDown
import HandS.Ends
import HandS.More
import HandS.Head0
import HandS.Head1
import HandS.Head2
import HandS.HeadEnd
import HandS.HeadHook1
import HandS.HeadHook2
import HandS.HeadHook3
import HandS.HeadHook4
import PyProof.DictTable
import HandS.RaiseOp
import HandS.WrittenGet
import PySem.Challenge.RW_gatesread_k01_split_tokens
set_option Elab.async false
set_option linter.all false
set_option maxRecDepth 100000
set_option maxHeartbeats 0
/-! The value machine, plain part: values are trees, a def's slots hold values or lists of their own. -/
noncomputable section
namespace Vm
abbrev Str := PySem.Str
abbrev Key := Sum Int Str

/-- a value, whole: nothing in it changes any more -/
inductive Val where
  | non
  | bl (b : Bool)
  | int (i : Int)
  | str (s : Str)
  | tup (xs : List Val)
  | lst (xs : List Val)
  | dct (kvs : List (Key × Val))
  deriving Inhabited

/-- a slot of a def -/
inductive Slot where
  | un
  | sh (x : Val)
  | oL (xs : List Val)
  | oD (kvs : List (Key × Val))
  deriving Inhabited
abbrev Env := List Slot

/-- an exception: its class's name and its fields -/
structure Exn where
  cls : Str
  fs : List (Str × Val)

inductive Res (α : Type) where
  | ok (a : α)
  | exc (e : Exn)
  | bad
def Res.bind {α β : Type} : Res α → (α → Res β) → Res β
  | .ok a, f => f a
  | .exc e, _ => .exc e
  | .bad, _ => .bad
@[simp] theorem Res.bind_ok {α β : Type} (a : α) (f : α → Res β) : (Res.ok a).bind f = f a := rfl
@[simp] theorem Res.bind_exc {α β : Type} (e : Exn) (f : α → Res β) : (Res.exc e).bind f = .exc e := rfl
@[simp] theorem Res.bind_bad {α β : Type} (f : α → Res β) : (Res.bad).bind f = .bad := rfl
def Res.ofOpt {α : Type} : Option α → Res α
  | some a => .ok a
  | none => .bad
@[simp] theorem Res.ofOpt_some {α : Type} (a : α) : Res.ofOpt (some a) = .ok a := rfl
@[simp] theorem Res.ofOpt_none {α : Type} : Res.ofOpt (none : Option α) = .bad := rfl

/-- what a value that stays may be made of: not the lists that may still change -/
def Slot.hide : Slot → Slot
  | .sh x => .sh x
  | _ => .un
def hide (env : Env) : Env := env.map Slot.hide
abbrev EX := Env → Res Val
abbrev EB := Env → Res Bool
abbrev EL := Env → Res (List Val)

/-! ### values -/
def Val.isFlat : Val → Bool
  | .non => true
  | .bl _ => true
  | .int _ => true
  | .str _ => true
  | _ => false
/- no list, no dict within -/
mutual
def Val.noLst : Val → Bool
  | .tup xs => Val.noLsts xs
  | .lst _ => false
  | .dct _ => false
  | .non => true
  | .bl _ => true
  | .int _ => true
  | .str _ => true
def Val.noLsts : List Val → Bool
  | [] => true
  | x :: xs => Val.noLst x && Val.noLsts xs
end
/- data: nothing but None, bools, intsOf, texts, lists, tuples; the depth -/
mutual
def Val.isData : Val → Bool
  | .tup xs => Val.isDatas xs
  | .lst xs => Val.isDatas xs
  | .dct _ => false
  | .non => true
  | .bl _ => true
  | .int _ => true
  | .str x => x.cps.all (· < 0x110000)
def Val.isDatas : List Val → Bool
  | [] => true
  | x :: xs => Val.isData x && Val.isDatas xs
end
mutual
def Val.depth : Val → Nat
  | .tup xs => Val.depths xs + 1
  | .lst xs => Val.depths xs + 1
  | .dct _ => 0
  | .non => 0
  | .bl _ => 0
  | .int _ => 0
  | .str _ => 0
def Val.depths : List Val → Nat
  | [] => 0
  | x :: xs => max (Val.depth x) (Val.depths xs)
end
def b2i (b : Bool) : Int := if b then 1 else 0
/- Python's == of data -/
mutual
def eqv : Val → Val → Bool
  | .non, .non => true
  | .bl a, .bl b => a == b
  | .bl a, .int j => b2i a == j
  | .int i, .bl b => i == b2i b
  | .int i, .int j => i == j
  | .str x, .str y => x == y
  | .lst xs, .lst ys => eqvs xs ys
  | .tup xs, .tup ys => eqvs xs ys
  | _, _ => false
def eqvs : List Val → List Val → Bool
  | [], [] => true
  | x :: xs, y :: ys => eqv x y && eqvs xs ys
  | _, _ => false
end
/-- None, bools, ints, texts, but not a bool beside an int -/
def scal2 : Val → Val → Bool
  | .bl _, .int _ => false
  | .int _, .bl _ => false
  | x, y => x.isFlat && y.isFlat
def eqR (x y : Val) : Res Bool := if scal2 x y then .ok (eqv x y) else if x.isData && decide (x.depth ≤ 64) && (y.isData && decide (y.depth ≤ 64)) then .ok (eqv x y) else .bad

/-! ### expressions -/
def eVar (i : Nat) : EX := fun env => match env[i]? with
  | some (.sh x) => .ok x
  | some (.oL xs) => .ok (.lst xs)
  | some (.oD kvs) => .ok (.dct kvs)
  | _ => .bad
def eC (x : Val) : EX := fun _ => .ok x
def e1 (f : Val → Res Val) (a : EX) : EX := fun env => (a env).bind f
def e2 (f : Val → Val → Res Val) (a b : EX) : EX := fun env => (a env).bind fun x => (b env).bind fun y => f x y
/-- an argument list -/
def aNil : EL := fun _ => .ok []
def aCons (a : EX) (r : EL) : EL := fun env => (a env).bind fun x => (r env).bind fun xs => .ok (x :: xs)
def eArgs (f : List Val → Res Val) (a : EL) : EX := fun env => (a env).bind f

def vAdd : Val → Val → Res Val
  | .int i, .int j => .ok (.int (i + j))
  | .str x, .str y => if x.length + y.length ≤ 16777216 then .ok (.str (x ++ y)) else .bad
  | .lst xs, .lst ys => if xs.length + ys.length ≤ 16777216 then .ok (.lst (xs ++ ys)) else .bad
  | .tup xs, .tup ys => if xs.length + ys.length ≤ 16777216 ∧ xs.isEmpty = false then .ok (.tup (xs ++ ys)) else .bad
  | _, _ => .bad
def vIpAdd : Val → Val → Res Val
  | .int i, .int j => .ok (.int (i + j))
  | _, _ => .bad
def vSub : Val → Val → Res Val
  | .int i, .int j => .ok (.int (i - j))
  | _, _ => .bad
/-- p, nothing to run: the bounds of what the model's numbers may be -/
def big (p : Prop) : Bool := @decide p (Classical.propDecidable p)
theorem big_iff {p : Prop} : big p = true ↔ p := @decide_eq_true_iff p (Classical.propDecidable p)
def mulOk (i j : Int) : Bool := big ((-18446744073709551616 < i ∧ i < 18446744073709551616) ∨ (-18446744073709551616 < j ∧ j < 18446744073709551616))
def divOk (j : Int) : Bool := big (0 < j ∧ j < 1267650600228229401496703205376)
def powOk (i j : Int) : Bool := big (0 ≤ j ∧ j ≤ 1000000 ∧ i.natAbs < 18446744073709551616)
def vMul : Val → Val → Res Val
  | .int i, .int j => if mulOk i j = true then .ok (.int (i * j)) else .bad
  | _, _ => .bad
def vDiv : Val → Val → Res Val
  | .int i, .int j => if divOk j = true then .ok (.int (i / j)) else .bad
  | _, _ => .bad
def vMod : Val → Val → Res Val
  | .int i, .int j => if 0 < j then .ok (.int (i % j)) else .bad
  | _, _ => .bad
def vPow : Val → Val → Res Val
  | .int i, .int j => if powOk i j = true then .ok (.int (i ^ j.toNat)) else .bad
  | _, _ => .bad
def vNeg : Val → Res Val
  | .int i => .ok (.int (-i))
  | _ => .bad
def vLt : Val → Val → Res Val
  | .int i, .int j => .ok (.bl (decide (i < j)))
  | _, _ => .bad
def vLe : Val → Val → Res Val
  | .int i, .int j => .ok (.bl (decide (i ≤ j)))
  | _, _ => .bad
def vGt : Val → Val → Res Val
  | .int i, .int j => .ok (.bl (decide (j < i)))
  | _, _ => .bad
def vGe : Val → Val → Res Val
  | .int i, .int j => .ok (.bl (decide (j ≤ i)))
  | _, _ => .bad
def vEq (x y : Val) : Res Val := (eqR x y).bind fun b => .ok (.bl b)
def vNe (x y : Val) : Res Val := (eqR x y).bind fun b => .ok (.bl (!b))
def inFlat (x : Val) (xs : List Val) : Bool := xs.any fun y => eqv y x
def vInS : Val → Val → Res Val
  | x, .lst xs => if x.isFlat && xs.all Val.isFlat then .ok (.bl (inFlat x xs)) else .bad
  | x, .tup xs => if x.isFlat && xs.all Val.isFlat then .ok (.bl (inFlat x xs)) else .bad
  | .str x, .str y => match x.cps.toList with
    | [c] => .ok (.bl (decide (c ∈ y.cps.toList)))
    | _ => .bad
  | _, _ => .bad
def rNot : Res Val → Res Val
  | .ok (.bl b) => .ok (.bl (!b))
  | .ok _ => .bad
  | .exc e => .exc e
  | .bad => .bad
def vNotInS (x y : Val) : Res Val := rNot (vInS x y)
/-! dicts by keys that are ints or texts -/
def keyOfV : Val → Option Key
  | .int i => some (.inl i)
  | .str x => some (.inr x)
  | _ => none
def kVal : Key → Val
  | .inl i => .int i
  | .inr x => .str x
def getV (kvs : List (Key × Val)) (k : Key) : Option Val := (kvs.find? fun kv => decide (kv.1 = k)).map (·.2)
def putV (kvs : List (Key × Val)) (k : Key) (v : Val) : List (Key × Val) := if (kvs.any fun kv => decide (kv.1 = k)) = true then kvs.map (fun kv => if kv.1 = k then (kv.1, v) else kv) else kvs ++ [(k, v)]
def mergeV (kvs more : List (Key × Val)) : List (Key × Val) := more.foldl (fun acc kv => putV acc kv.1 kv.2) kvs
def vInD (x : Val) (kvs : List (Key × Val)) : Res Val := match keyOfV x with
  | some k => .ok (.bl (getV kvs k).isSome)
  | none => .bad
def vIn (x : Val) : Val → Res Val
  | .dct kvs => vInD x kvs
  | y => vInS x y
def vNotIn (x y : Val) : Res Val := rNot (vIn x y)
def vIs : Val → Val → Res Val
  | .non, .non => .ok (.bl true)
  | _, .non => .ok (.bl false)
  | _, _ => .bad
def vIsNot : Val → Val → Res Val
  | .non, .non => .ok (.bl false)
  | _, .non => .ok (.bl true)
  | _, _ => .bad

/-- an index, from the end if it is negative -/
def ixNat (n : Nat) (i : Int) : Option Nat := if 0 ≤ i then (if i < n then some i.toNat else none) else if -(n : Int) ≤ i then some (i + n).toNat else none
def atI {α : Type} (xs : List α) (i : Int) : Option α := (ixNat xs.length i).bind fun k => xs[k]?
def vIxS : Val → Val → Res Val
  | .lst xs, .int i => Res.ofOpt (atI xs i)
  | .tup xs, .int i => Res.ofOpt (atI xs i)
  | .str z, .int i => if z.length ≤ 16777216 then Res.ofOpt ((atI z.cps.toList i).map fun c => .str ⟨#[c]⟩) else .bad
  | _, _ => .bad
def vIx : Val → Val → Res Val
  | .dct kvs, k => Res.ofOpt ((keyOfV k).bind (getV kvs))
  | x, k => vIxS x k
/-- the bounds of a slice -/
def cutAt (n : Nat) (d : Nat) : Option Int → Nat
  | none => d
  | some i => if i < 0 then (i + (n : Int)).toNat else min i.toNat n
def cut {α : Type} (xs : List α) (lo hi : Option Int) : List α := (xs.drop (cutAt xs.length 0 lo)).take (cutAt xs.length xs.length hi - cutAt xs.length 0 lo)
def partOf : Option EX → Env → Res (Option Int)
  | none, _ => .ok none
  | some a, env => (a env).bind fun
    | .int i => .ok (some i)
    | _ => .bad
def vCut : Val → Option Int → Option Int → Res Val
  | .lst xs, lo, hi => .ok (.lst (cut xs lo hi))
  | .str z, lo, hi => if z.length ≤ 16777216 then .ok (.str ⟨(cut z.cps.toList lo hi).toArray⟩) else .bad
  | .tup xs, lo, hi => if cutAt xs.length 0 lo = 0 ∧ cutAt xs.length xs.length hi = xs.length then .bad else .ok (.tup (cut xs lo hi))
  | _, _, _ => .bad
def eCut (a : EX) (lo hi : Option EX) : EX := fun env => (a env).bind fun x => (partOf lo env).bind fun l => (partOf hi env).bind fun h => vCut x l h

/-- truth -/
def truth : Val → Res Bool
  | .non => .ok false
  | .bl b => .ok b
  | .int i => .ok (i != 0)
  | .str z => if z.length ≤ 16777216 then .ok (z.length != 0) else .bad
  | .tup xs => .ok (!xs.isEmpty)
  | .lst xs => .ok (!xs.isEmpty)
  | .dct kvs => .ok (!kvs.isEmpty)
def bVal (a : EX) : EB := fun env => (a env).bind fun
  | .bl b => .ok b
  | _ => .bad
def bTruth (a : EX) : EB := fun env => (a env).bind truth
def bAnd (a b : EB) : EB := fun env => (a env).bind fun x => bif x then b env else .ok false
def bOr (a b : EB) : EB := fun env => (a env).bind fun x => bif x then .ok true else b env
def bNot (a : EB) : EB := fun env => (a env).bind fun x => .ok (!x)
def asBl : Val → Res Bool
  | .bl b => .ok b
  | _ => .bad
def eAnd (a b : EX) : EX := fun env => (a env).bind fun x => (asBl x).bind fun k => bif k then b env else .ok (.bl false)
def eOr (a b : EX) : EX := fun env => (a env).bind fun x => (asBl x).bind fun k => bif k then .ok (.bl true) else b env
def eNot (a : EX) : EX := fun env => (a env).bind fun x => (asBl x).bind fun k => .ok (.bl (!k))
def eIf (t : EB) (a b : EX) : EX := fun env => (t env).bind fun k => bif k then a env else b env
/-- a op b op' c -/
def eChain (f g : Val → Val → Res Val) (a b c : EX) : EX := fun env => (a env).bind fun x => (b env).bind fun y => (f x y).bind fun z => (asBl z).bind fun k => bif k then (c env).bind fun w => g y w else .ok (.bl false)

def vTup (xs : List Val) : Res Val := if xs.length ≤ 16777216 then .ok (.tup xs) else .bad
def vLst (xs : List Val) : Res Val := if xs.length ≤ 16777216 then .ok (.lst xs) else .bad

def vKGet (tab : List (Str × Val)) : Val → Res Val
  | .str z => Res.ofOpt (tab.lookup z)
  | _ => .bad
def vKIn (tab : List (Str × Val)) : Val → Res Val
  | .str z => .ok (.bl (tab.lookup z).isSome)
  | _ => .bad
def vKNi (tab : List (Str × Val)) : Val → Res Val
  | .str z => .ok (.bl (!(tab.lookup z).isSome))
  | _ => .bad

/-- the pairs: keys told, values made from the left -/
def DPairs : List (Key × EX) → Env → Res (List (Key × Val))
  | [], _ => .ok []
  | (k, a) :: r, env => (a env).bind fun x => (DPairs r env).bind fun ps => .ok ((k, x) :: ps)
def eDict (ps : List (Key × EX)) : EX := fun env => (DPairs ps env).bind fun kvs => if kvs.length ≤ 15 then .ok (.dct (mergeV [] kvs)) else .bad

/-! ### built-in functions -/
def vLen : List Val → Res Val
  | [.lst xs] => .ok (.int xs.length)
  | [.tup xs] => .ok (.int xs.length)
  | [.str z] => if z.length ≤ 16777216 then .ok (.int z.length) else .bad
  | _ => .bad
def digitOf (z : Str) : Option Int := match z.cps.toList with
  | [c] => if 48 ≤ c ∧ c ≤ 57 then some ((c : Int) - 48) else none
  | _ => none
def vInt : List Val → Res Val
  | [.str z] => (Res.ofOpt (digitOf z)).bind fun i => .ok (.int i)
  | [.int i] => .ok (.int i)
  | [.bl b] => .ok (.int (b2i b))
  | _ => .bad
inductive Ty where
  | int | bool | str | list | tuple | dict
  deriving DecidableEq
def Val.ty : Val → Option Ty
  | .non => none
  | .bl _ => some .bool
  | .int _ => some .int
  | .str _ => some .str
  | .tup _ => some .tuple
  | .lst _ => some .list
  | .dct _ => some .dict
def Ty.sub (t : Option Ty) (u : Ty) : Bool := t == some u || (t == some .bool && u == .int)
def vIsi (u : Ty) (x : Val) : Res Val := .ok (.bl (Ty.sub x.ty u))
/-- a list's intsOf, bools, texts -/
def intsOf : List Val → Option (List Int)
  | [] => some []
  | .int i :: r => (intsOf r).map (i :: ·)
  | _ :: _ => none
def blsOf : List Val → Option (List Bool)
  | [] => some []
  | .bl i :: r => (blsOf r).map (i :: ·)
  | _ :: _ => none
def strsOf : List Val → Option (List Str)
  | [] => some []
  | .str i :: r => (strsOf r).map (i :: ·)
  | _ :: _ => none
def vSum : List Val → Res Val
  | [.lst xs] => (Res.ofOpt (intsOf xs)).bind fun ns => .ok (.int ns.sum)
  | _ => .bad
def maxL : Int → List Int → Int
  | m, [] => m
  | m, x :: r => maxL (if x > m then x else m) r
def minL : Int → List Int → Int
  | m, [] => m
  | m, x :: r => minL (if x < m then x else m) r
def vMax : List Val → Res Val
  | [.int i, .int j] => .ok (.int (if j > i then j else i))
  | [.int i, .int j, .int k] => .ok (.int (if k > (if j > i then j else i) then k else (if j > i then j else i)))
  | [.lst xs] => (Res.ofOpt (intsOf xs)).bind fun
    | [] => .bad
    | n :: ns => .ok (.int (maxL n ns))
  | _ => .bad
def vMin : List Val → Res Val
  | [.int i, .int j] => .ok (.int (if j < i then j else i))
  | [.lst xs] => (Res.ofOpt (intsOf xs)).bind fun
    | [] => .bad
    | n :: ns => .ok (.int (minL n ns))
  | _ => .bad
def vAny : List Val → Res Val
  | [.lst xs] => (Res.ofOpt (blsOf xs)).bind fun bs => .ok (.bl (bs.any id))
  | _ => .bad
def vAll : List Val → Res Val
  | [.lst xs] => (Res.ofOpt (blsOf xs)).bind fun bs => .ok (.bl (bs.all id))
  | _ => .bad
def vListOf : List Val → Res Val
  | [.lst xs] => .ok (.lst xs)
  | [.tup xs] => .ok (.lst xs)
  | _ => .bad
def vTupOf : List Val → Res Val
  | [.lst xs] => .ok (.tup xs)
  | [.tup xs] => .ok (.tup xs)
  | _ => .bad

/-! ### what is walked: the items, told ahead -/
abbrev EI := Env → Res (List Val)
def itemsOf : Val → Res (List Val)
  | .lst xs => .ok xs
  | .tup xs => .ok xs
  | .str z => .ok (z.cps.toList.map fun c => .str ⟨#[c]⟩)
  | _ => .bad
def iSeq (a : EX) : EI := fun env => (a env).bind itemsOf
def rangeL (lo : Int) (n : Nat) : List Val := (List.range n).map fun (i : Nat) => Val.int (lo + (i : Int))
def smallI (i : Int) : Bool := big (-4611686018427387904 ≤ i ∧ i < 4611686018427387904)
def iRange1 (a : EX) : EI := fun env => (a env).bind fun
  | .int j => if smallI j then .ok (rangeL 0 j.toNat) else .bad
  | _ => .bad
def iRange2 (a b : EX) : EI := fun env => (a env).bind fun x => (b env).bind fun y => match x, y with
  | .int i, .int j => if smallI i && smallI j then .ok (rangeL i (j - i).toNat) else .bad
  | _, _ => .bad
def enumL : Nat → List Val → List Val
  | _, [] => []
  | n, x :: r => .tup [.int (n : Int), x] :: enumL (n + 1) r
def zipL : List Val → List Val → List Val
  | x :: r, y :: s => .tup [x, y] :: zipL r s
  | _, _ => []

def iEnumV (a : EX) : EI := fun env => (a env).bind fun
  | .lst xs => .ok (enumL 0 xs)
  | _ => .bad
def iZipV (a b : EX) : EI := fun env => (a env).bind fun x => (b env).bind fun y => match x, y with
  | .lst xs, .lst ys => .ok (zipL xs ys)
  | _, _ => .bad

/-! ### comprehensions: own the comprehension's own slots, put how an item is bound -/
abbrev Put := Val → Env → Res Env
def pName (i : Nat) : Put := fun x env => if i < env.length then .ok (env.set i (.sh x)) else .bad
def putAll : List Nat → List Val → Env → Res Env
  | [], [], env => .ok env
  | i :: is, x :: xs, env => (pName i x env).bind fun e => putAll is xs e
  | _, _, _ => .bad
def pTup (is : List Nat) : Put := fun x env => match x with
  | .tup xs => putAll is xs env
  | _ => .bad
def pTupL (is : List Nat) : Put := fun x env => match x with
  | .lst xs => putAll is xs env
  | _ => .bad
def wipeE (env : Env) : List Nat → Env
  | [] => env
  | v :: vs => (wipeE env vs).set v .un
/-- nothing is raised -/
def Res.nx {α : Type} : Res α → Res α
  | .exc _ => .bad
  | r => r
@[simp] theorem Res.nx_ok {α : Type} (a : α) : (Res.ok a).nx = .ok a := rfl
def compL (put : Put) (tt : EB) (el : EX) (env : Env) : List Val → Res (List Val)
  | [] => .ok []
  | x :: xs => (put x env).nx.bind fun e => (tt e).nx.bind fun b => bif b then (el e).nx.bind fun y => (compL put tt el env xs).bind fun r => .ok (y :: r) else compL put tt el env xs
def bYes : EB := fun _ => .ok true
def eComp (it : EI) (own : List Nat) (put : Put) (tt : EB) (el : EX) : EX := fun env => (it env).bind fun xs => if xs.length ≤ 16777216 then (compL put tt el (wipeE env own) xs).bind fun r => .ok (.lst r) else .bad

/-! ### statements -/
inductive Flow where
  | next (e : Env)
  | brk (e : Env)
  | cont (e : Env)
  | ret (x : Val)
  | exc (x : Exn) (e : Env)
  | bad
abbrev ST := Env → Flow
def Flow.bind : Flow → (Env → Flow) → Flow
  | .next e, f => f e
  | r, _ => r
def Res.flow {α : Type} : Res α → Env → (α → Flow) → Flow
  | .ok a, _, f => f a
  | .exc x, e, _ => .exc x e
  | .bad, _, _ => .bad
@[simp] theorem Flow.bind_next (e : Env) (f : Env → Flow) : (Flow.next e).bind f = f e := rfl
@[simp] theorem Flow.bind_ret (x : Val) (f : Env → Flow) : (Flow.ret x).bind f = .ret x := rfl
@[simp] theorem Flow.bind_bad (f : Env → Flow) : Flow.bad.bind f = .bad := rfl
@[simp] theorem Flow.bind_brk (e : Env) (f : Env → Flow) : (Flow.brk e).bind f = .brk e := rfl
@[simp] theorem Flow.bind_cont (e : Env) (f : Env → Flow) : (Flow.cont e).bind f = .cont e := rfl
@[simp] theorem Flow.bind_exc (x : Exn) (e : Env) (f : Env → Flow) : (Flow.exc x e).bind f = .exc x e := rfl
@[simp] theorem Res.flow_ok {α : Type} (a : α) (e : Env) (f : α → Flow) : (Res.ok a).flow e f = f a := rfl
@[simp] theorem Res.flow_exc {α : Type} (x : Exn) (e : Env) (f : α → Flow) : (Res.exc x : Res α).flow e f = .exc x e := rfl
@[simp] theorem Res.flow_bad {α : Type} (e : Env) (f : α → Flow) : (Res.bad : Res α).flow e f = .bad := rfl

def sNext : ST := .next
def sSeq (a b : ST) : ST := fun env => (a env).bind b
def sBreak : ST := .brk
def sCont : ST := .cont
/-- x = e, nothing in e that may still change -/
def sSet (i : Nat) (a : EX) : ST := fun env => (a (hide env)).flow env fun x => if i < env.length then .next (env.set i (.sh x)) else .bad
/-- x = e, no list in the value -/
def sSetN (i : Nat) (a : EX) : ST := fun env => (a env).flow env fun x => if i < env.length ∧ x.noLst = true then .next (env.set i (.sh x)) else .bad
def sPut (p : Put) (a : EX) : ST := fun env => (a (hide env)).flow env fun x => (p x env).flow env .next
/-- a new list of the slot's own -/
def sOwn (i : Nat) (a : EX) : ST := fun env => (a (hide env)).flow env fun
  | .lst xs => if i < env.length then .next (env.set i (.oL xs)) else .bad
  | _ => .bad
def sOwnN (i : Nat) (a : EX) : ST := fun env => (a env).flow env fun
  | .lst xs => if i < env.length ∧ Val.noLsts xs = true then .next (env.set i (.oL xs)) else .bad
  | _ => .bad
/-- a new dict of the slot's own -/
def sOwnD (i : Nat) (a : EX) : ST := fun env => (a (hide env)).flow env fun
  | .dct xs => if i < env.length then .next (env.set i (.oD xs)) else .bad
  | _ => .bad
def sFreezeD (i : Nat) : ST := fun env => match env[i]? with
  | some (.oD xs) => .next (env.set i (.sh (.dct xs)))
  | _ => .bad
/-- x[k] = e in a dict of the slot's own -/
def itemPutD (i : Nat) (env : Env) (x k : Val) : Flow := match env[i]?, keyOfV k with
  | some (.oD xs), some q => if xs.length < 16777216 then .next (env.set i (.oD (putV xs q x))) else .bad
  | _, _ => .bad
def sOnD (i : Nat) (m : ST) : ST := fun env => match env[i]? with
  | some (.oD _) => m env
  | _ => .bad
def sPutD (i : Nat) (b a : EX) : ST := fun env => (a (hide env)).flow env fun x => (b env).flow env fun k => itemPutD i env x k
def sPutDN (i : Nat) (b a : EX) : ST := fun env => (a env).flow env fun x => if x.noLst = true then (b env).flow env fun k => itemPutD i env x k else .bad
/-- from here on the slot's list stays as it is -/
def sFreeze (i : Nat) : ST := fun env => match env[i]? with
  | some (.oL xs) => .next (env.set i (.sh (.lst xs)))
  | _ => .bad
def sForget (is : List Nat) : ST := fun env => .next (wipeE env is)
def sDrop (a : EX) : ST := fun env => (a env).flow env fun _ => .next env
def sAppend (i : Nat) (a : EX) : ST := fun env => match env[i]? with
  | some (.oL xs) => (a (hide env)).flow env fun x => if xs.length < 16777216 then .next (env.set i (.oL (xs ++ [x]))) else .bad
  | _ => .bad
def sAppendN (i : Nat) (a : EX) : ST := fun env => match env[i]? with
  | some (.oL xs) => (a env).flow env fun x => if xs.length < 16777216 ∧ x.noLst = true then .next (env.set i (.oL (xs ++ [x]))) else .bad
  | _ => .bad
/-- x[k] = e in a list of the slot's own; e: nothing that may still change | e: no list in it -/
def itemPut (i : Nat) (env : Env) (x k : Val) : Flow := match env[i]?, k with
  | some (.oL xs), .int k => (match ixNat xs.length k with
    | some j => .next (env.set i (.oL (xs.set j x)))
    | none => .bad)
  | _, _ => .bad
def sItem (i : Nat) (b a : EX) : ST := fun env => (a (hide env)).flow env fun x => (b env).flow env fun k => itemPut i env x k
def sItemN (i : Nat) (b a : EX) : ST := fun env => (a env).flow env fun x => if x.noLst = true then (b env).flow env fun k => itemPut i env x k else .bad
/-- the slot has a list of its own -/
def sOn (i : Nat) (m : ST) : ST := fun env => match env[i]? with
  | some (.oL _) => m env
  | _ => .bad
def sAug (f : Val → Val → Res Val) (i : Nat) (a : EX) : ST := fun env => match env[i]? with
  | some (.sh x) => (a env).flow env fun y => (f x y).flow env fun z => if z.noLst = true then .next (env.set i (.sh z)) else .bad
  | _ => .bad
def sIf (t : EB) (a b : ST) : ST := fun env => (t env).flow env fun k => bif k then a env else b env
def sRet (a : EX) : ST := fun env => (a env).flow env .ret
def sRetN : ST := fun _ => .ret .non
def forL (put : Put) (body : ST) : List Val → Env → Flow
  | [], env => .next env
  | x :: xs, env => (put x env).nx.flow env fun e => match body e with
    | .next e' => forL put body xs e'
    | .cont e' => forL put body xs e'
    | .brk e' => .next e'
    | .ret v => .ret v
    | .exc q e' => .exc q e'
    | .bad => .bad
def sFor (it : EI) (put : Put) (body : ST) : ST := fun env => (it (hide env)).flow env fun xs => forL put body xs env
/-- at most n turns -/
def whileL (t : EB) (body : ST) : Nat → Env → Flow
  | 0, _ => .bad
  | n + 1, env => (t env).flow env fun k => bif k then (match body env with
    | .next e' => whileL t body n e'
    | .cont e' => whileL t body n e'
    | .brk e' => .next e'
    | .ret v => .ret v
    | .exc q e' => .exc q e'
    | .bad => .bad) else .next env
def sWhile (n : Nat) (t : EB) (body : ST) : ST := fun env => whileL t body n env

/-! ### defs -/
inductive DR where
  | ret (x : Val)
  | exc (e : Exn)
  | bad
abbrev Fn := List Val → DR
def startE (n : Nat) (xs : List Val) : Env := xs.map Slot.sh ++ List.replicate (n - xs.length) Slot.un
/-- a def of k parameters and n slots in all -/
def defn (k n : Nat) (body : ST) : Fn := fun xs => if xs.length = k then (match body (startE n xs) with
  | .next _ => .ret .non
  | .ret x => .ret x
  | .exc e _ => .exc e
  | _ => .bad) else .bad
def DR.res : DR → Res Val
  | .ret x => .ok x
  | .exc e => .exc e
  | .bad => .bad
def eCall (f : Fn) (a : EL) : EX := fun env => (a env).bind fun xs => (f xs).res
end Vm
end

/-! The value machine over HandS: what stands for what. -/
namespace Vm
open PySem L2

/-! ### heaps -/
abbrev Sub (H H' : Hp) : Prop := Same H H'
/-- from N within H to N' within H': only new things -/
structure Gr (N H N' H' : Hp) : Prop where
  hh : Sub H H'
  nn : Sub N N'
  nh : Sub N' H'
  nw : ∀ a, N' a ≠ none → N a ≠ none ∨ H a = none
theorem Gr.refl {N H : Hp} (e : Sub N H) : Gr N H N H := ⟨Same.refl _, Same.refl _, e, fun _ h => .inl h⟩
theorem Gr.trans {N H N1 H1 N2 H2 : Hp} (a : Gr N H N1 H1) (b : Gr N1 H1 N2 H2) : Gr N H N2 H2 :=
  ⟨a.hh.trans b.hh, a.nn.trans b.nn, b.nh, fun x h => by
    rcases b.nw x h with q | q
    · exact a.nw x q
    · exact .inr (a.hh.free q)⟩
theorem Gr.new {N H : Hp} {p : Addr} {o : HO} (e : Sub N H) (h : H p = none) : Gr N H (upd N p o) (upd H p o) := by
  refine ⟨fun b u q => by rw [upd_ne (ne_of_none q h)]; exact q, fun b u q => by rw [upd_ne (ne_of_none (e b u q) h)]; exact q, fun b u q => ?_, fun b q => ?_⟩
  · by_cases hb : b = p
    · subst hb; rw [upd_same] at q ⊢; exact q
    · rw [upd_ne hb] at q ⊢; exact e b u q
  · by_cases hb : b = p
    · subst hb; exact .inr h
    · rw [upd_ne hb] at q; exact .inl q

theorem sq_mono {K : PySem.W.Frag} {H H' : Hp} {a : Addr} {xs : List V} (e : Sub H H') (h : SqL K H a xs) : SqL K H' a xs := e.seq h
theorem st_mono {K : PySem.W.Frag} {H H' : Hp} {a : Addr} {xs : List V} (e : Sub H H') (h : SqT K H a xs) : SqT K H' a xs := by
  rcases h with (h | ⟨o, h⟩) | h
  · exact .inl (.inl (e _ _ h))
  · exact .inl (.inr ⟨o, e _ _ h⟩)
  · exact .inr h

/-! ### values -/
/-- a dict that may be read -/
def SqD (H : Hp) (a : Addr) (kvs : List (L2.Key × V)) : Prop := H a = some (.dK kvs)
mutual
inductive RV (K : PySem.W.Frag) (N : Hp) : V → Val → Prop
  | non : RV K N .non .non
  | bl (b : Bool) : RV K N (.bl b) (.bl b)
  | int (i : Int) : RV K N (.int i) (.int i)
  | str (x : Str) : RV K N (.str x) (.str x)
  | tup {a : Addr} {vs : List V} {xs : List Val} : SqT K N a vs → RVs K N vs xs → RV K N (.ref a) (.tup xs)
  | lst {a : Addr} {vs : List V} {xs : List Val} : SqL K N a vs → RVs K N vs xs → RV K N (.ref a) (.lst xs)
  | dct {a : Addr} {kvs : List (L2.Key × V)} {ys : List (Key × Val)} : SqD N a kvs → RKs K N kvs ys → RV K N (.ref a) (.dct ys)
inductive RVs (K : PySem.W.Frag) (N : Hp) : List V → List Val → Prop
  | nil : RVs K N [] []
  | cons {v : V} {vs : List V} {x : Val} {xs : List Val} : RV K N v x → RVs K N vs xs → RVs K N (v :: vs) (x :: xs)
inductive RKs (K : PySem.W.Frag) (N : Hp) : List (L2.Key × V) → List (Key × Val) → Prop
  | nil : RKs K N [] []
  | cons {k : Key} {v : V} {vs : List (L2.Key × V)} {x : Val} {xs : List (Key × Val)} : RV K N v x → RKs K N vs xs → RKs K N ((k, v) :: vs) ((k, x) :: xs)
end
section
variable {K : PySem.W.Frag} {N N' : Hp}
mutual
theorem RV.mono (e : Sub N N') : ∀ (x : Val) {v : V}, RV K N v x → RV K N' v x
  | .non, _, .non => .non
  | .bl _, _, .bl b => .bl b
  | .int _, _, .int i => .int i
  | .str _, _, .str x => .str x
  | .tup xs, _, .tup h r => .tup (st_mono e h) (RVs.mono e xs r)
  | .lst xs, _, .lst h r => .lst (sq_mono e h) (RVs.mono e xs r)
  | .dct xs, _, .dct h r => .dct (e _ _ h) (RKs.mono e xs r)
theorem RVs.mono (e : Sub N N') : ∀ (xs : List Val) {vs : List V}, RVs K N vs xs → RVs K N' vs xs
  | [], _, .nil => .nil
  | x :: xs, _, .cons h r => .cons (RV.mono e x h) (RVs.mono e xs r)
theorem RKs.mono (e : Sub N N') : ∀ (xs : List (Key × Val)) {vs : List (L2.Key × V)}, RKs K N vs xs → RKs K N' vs xs
  | [], _, .nil => .nil
  | (_, x) :: xs, _, .cons h r => .cons (RV.mono e x h) (RKs.mono e xs r)
end
theorem RVs.length : ∀ {vs : List V} {xs : List Val}, RVs K N vs xs → vs.length = xs.length
  | _, _, .nil => rfl
  | _, _, .cons _ r => congrArg (· + 1) r.length
theorem RVs.append : ∀ {vs ws : List V} {xs ys : List Val}, RVs K N vs xs → RVs K N ws ys → RVs K N (vs ++ ws) (xs ++ ys)
  | _, _, _, _, .nil, s => s
  | _, _, _, _, .cons h r, s => .cons h (r.append s)
theorem RVs.get : ∀ {vs : List V} {xs : List Val} {i : Nat} {x : Val}, RVs K N vs xs → xs[i]? = some x → ∃ v, vs[i]? = some v ∧ RV K N v x
  | _, _, _, _, .nil, e => by simp at e
  | _, _, 0, _, .cons h _, e => by simp at e; subst e; exact ⟨_, rfl, h⟩
  | _, _, i + 1, x, .cons _ r, e => by
    obtain ⟨v, h1, h2⟩ := r.get (i := i) (x := x) (by simpa using e)
    exact ⟨v, by simpa using h1, h2⟩
theorem RVs.getV : ∀ {vs : List V} {xs : List Val} {i : Nat} {v : V}, RVs K N vs xs → vs[i]? = some v → ∃ x, xs[i]? = some x ∧ RV K N v x
  | _, _, _, _, .nil, e => by simp at e
  | _, _, 0, _, .cons h _, e => by simp at e; subst e; exact ⟨_, rfl, h⟩
  | _, _, i + 1, x, .cons _ r, e => by
    obtain ⟨v, h1, h2⟩ := r.getV (i := i) (v := x) (by simpa using e)
    exact ⟨v, by simpa using h1, h2⟩
theorem RVs.take : ∀ {vs : List V} {xs : List Val} (n : Nat), RVs K N vs xs → RVs K N (vs.take n) (xs.take n)
  | _, _, 0, _ => .nil
  | _, _, _ + 1, .nil => .nil
  | _, _, n + 1, .cons h r => .cons h (r.take n)
theorem RVs.drop : ∀ {vs : List V} {xs : List Val} (n : Nat), RVs K N vs xs → RVs K N (vs.drop n) (xs.drop n)
  | _, _, 0, r => r
  | _, _, _ + 1, .nil => .nil
  | _, _, n + 1, .cons _ r => r.drop n
theorem RVs.empty {vs : List V} {xs : List Val} (r : RVs K N vs xs) : vs.isEmpty = xs.isEmpty := by cases r <;> rfl

/-- flat values -/
def toV : Val → V
  | .bl b => .bl b
  | .int i => .int i
  | .str x => .str x
  | _ => .non
theorem RV.flat {v : V} {x : Val} (r : RV K N v x) (h : x.isFlat = true) : v = toV x ∧ flatV v = true := by
  cases r <;> first
    | exact ⟨rfl, rfl⟩
    | exact absurd h (by simp [Val.isFlat])
theorem RVs.flats : ∀ {vs : List V} {xs : List Val}, RVs K N vs xs → xs.all Val.isFlat = true → vs = xs.map toV ∧ vs.all flatV = true
  | _, _, .nil, _ => ⟨rfl, rfl⟩
  | _, _, .cons h r, e => by
    rw [List.all_cons, Bool.and_eq_true] at e
    obtain ⟨h1, h2⟩ := h.flat e.1
    obtain ⟨h3, h4⟩ := r.flats e.2
    exact ⟨by rw [List.map_cons, ← h1, ← h3], by rw [List.all_cons, h2, h4]; rfl⟩
theorem eqV_of {x y : Val} (hx : x.isFlat = true) (hy : y.isFlat = true) : eqV (toV x) (toV y) = eqv x y := by
  cases x <;> cases y <;> first
    | rfl
    | (simp [Val.isFlat] at hx; done)
    | (simp [Val.isFlat] at hy; done)
    | (simp [toV, eqV, eqv, b2i]; done)
theorem inV_of {x : Val} {xs : List Val} (hx : x.isFlat = true) (hs : xs.all Val.isFlat = true) : inV (toV x) (xs.map toV) = inFlat x xs := by
  unfold inV inFlat
  rw [List.any_map]
  induction xs with
  | nil => rfl
  | cons y ys ih =>
    rw [List.all_cons, Bool.and_eq_true] at hs
    rw [List.any_cons, List.any_cons, ih hs.2]
    congr 1
    exact eqV_of hs.1 hx
/-! data -/
mutual
def toD : Val → PyData
  | .non => .none
  | .bl b => .bool b
  | .int i => .int i
  | .str x => .str x
  | .tup xs => .tuple (toDs xs)
  | .lst xs => .list (toDs xs)
  | .dct _ => .none
def toDs : List Val → List PyData
  | [] => []
  | x :: xs => toD x :: toDs xs
end
mutual
theorem eqv_toD : ∀ (x y : Val), x.isData = true → y.isData = true → PyData.eqv (toD x) (toD y) = eqv x y
  | .non, y, _, hy => by cases y <;> first | rfl | (simp [Val.isData] at hy; done) | (simp [toD, PyData.eqv, eqv]; done)
  | .bl b, y, _, hy => by cases y <;> first | rfl | (simp [Val.isData] at hy; done) | (simp [toD, PyData.eqv, eqv, b2i]; done)
  | .int b, y, _, hy => by cases y <;> first | rfl | (simp [Val.isData] at hy; done) | (simp [toD, PyData.eqv, eqv, b2i]; done)
  | .str b, y, _, hy => by cases y <;> first | rfl | (simp [toD, PyData.eqv, eqv]; done) | (simp [Val.isData] at hy; done)
  | .tup xs, y, hx, hy => by
    cases y with
    | tup ys =>
      simp only [toD, PyData.eqv, eqv]
      exact eqvs_toDs xs ys hx hy
    | dct _ => simp [Val.isData] at hy
    | _ => simp [toD, PyData.eqv, eqv]
  | .lst xs, y, hx, hy => by
    cases y with
    | lst ys =>
      simp only [toD, PyData.eqv, eqv]
      exact eqvs_toDs xs ys hx hy
    | dct _ => simp [Val.isData] at hy
    | _ => simp [toD, PyData.eqv, eqv]
  | .dct _, _, hx, _ => by simp [Val.isData] at hx
theorem eqvs_toDs : ∀ (xs ys : List Val), Val.isDatas xs = true → Val.isDatas ys = true → PyData.eqvAll (toDs xs) (toDs ys) = eqvs xs ys
  | [], [], _, _ => rfl
  | [], _ :: _, _, _ => rfl
  | _ :: _, [], _, _ => rfl
  | x :: xs, y :: ys, hx, hy => by
    simp only [Val.isDatas, Bool.and_eq_true] at hx hy
    simp only [toDs, PyData.eqvAll, eqvs]
    rw [eqv_toD x y hx.1 hy.1, eqvs_toDs xs ys hx.2 hy.2]
end
mutual
theorem canLay_toD : ∀ (x : Val), x.isData = true → (toD x).canLay0 = true
  | .non, _ => rfl
  | .bl _, _ => rfl
  | .int _, _ => rfl
  | .str x, h => by simp only [toD, PyData.canLay0, PyData.strOk]; exact h
  | .dct _, h => by simp [Val.isData] at h
  | .tup xs, h => by simp only [toD, PyData.canLay0]; exact canLays_toDs xs h
  | .lst xs, h => by simp only [toD, PyData.canLay0]; exact canLays_toDs xs h
theorem canLays_toDs : ∀ (xs : List Val), Val.isDatas xs = true → PyData.canLayAll0 (toDs xs) = true
  | [], _ => rfl
  | x :: xs, h => by
    simp only [Val.isDatas, Bool.and_eq_true] at h
    simp only [toDs, PyData.canLayAll0, canLay_toD x h.1, canLays_toDs xs h.2, Bool.and_self]
end
mutual
theorem depth_toD : ∀ (x : Val), (toD x).depth = x.depth
  | .non => rfl
  | .bl _ => rfl
  | .int _ => rfl
  | .str _ => rfl
  | .dct _ => rfl
  | .tup xs => by simp only [toD, PyData.depth, Val.depth]; rw [depths_toDs xs]
  | .lst xs => by simp only [toD, PyData.depth, Val.depth]; rw [depths_toDs xs]
theorem depths_toDs : ∀ (xs : List Val), PyData.depthAll (toDs xs) = Val.depths xs
  | [] => rfl
  | x :: xs => by simp only [toDs, PyData.depthAll, Val.depths]; rw [depth_toD x, depths_toDs xs]
end
theorem shaped_toD {x : Val} (hd : x.isData = true) (h : x.depth ≤ 64) : SeqAt.shaped (toD x) = true := by
  unfold SeqAt.shaped
  rw [canLay_toD x hd, depth_toD, decide_eq_true h]
  rfl
theorem RV.scal {v w : V} {x y : Val} (rx : RV K N v x) (ry : RV K N w y) (h : scal2 x y = true) : L2.scal v w = true ∧ decide (v = w) = eqv x y := by
  cases rx <;> cases ry <;> first
    | (simp [scal2, Val.isFlat] at h; done)
    | (refine ⟨rfl, ?_⟩; simp [eqv]; done)
    | (refine ⟨rfl, ?_⟩; simp [eqv]; rfl)
    | (refine ⟨rfl, ?_⟩; rename_i a b; cases a <;> cases b <;> rfl)
mutual
theorem RV.dp : ∀ (x : Val) {v : V}, RV K N v x → x.isData = true → Dp K N v (toD x)
  | .non, _, .non, _ => .non
  | .bl _, _, .bl b, _ => .bl b
  | .int _, _, .int b, _ => .int b
  | .str _, _, .str b, _ => .str b
  | .tup xs, _, .tup h r, e => .tup h (RVs.dp xs r e)
  | .lst xs, _, .lst h r, e => .lst h (RVs.dp xs r e)
  | .dct _, _, .dct _ _, e => by simp [Val.isData] at e
theorem RVs.dp : ∀ (xs : List Val) {vs : List V}, RVs K N vs xs → Val.isDatas xs = true → DpAll K N vs (toDs xs)
  | [], _, .nil, _ => .nil
  | x :: xs, _, .cons h r, e => by
    simp only [Val.isDatas, Bool.and_eq_true] at e
    exact .cons (RV.dp x h e.1) (RVs.dp xs r e.2)
end
theorem intsOf_eq : ∀ {xs : List Val} {ns : List Int}, intsOf xs = some ns → xs = ns.map Val.int
  | [], ns, h => by simp [intsOf] at h; subst h; rfl
  | x :: xs, ns, h => by
    cases x with
    | int i =>
      simp only [intsOf, Option.map_eq_some_iff] at h
      obtain ⟨ms, h1, h2⟩ := h
      subst h2
      rw [List.map_cons, ← intsOf_eq h1]
    | _ => simp [intsOf] at h
theorem RVs.ofInts : ∀ {vs : List V} {ns : List Int}, RVs K N vs (ns.map Val.int) → vs = ns.map V.int
  | _, [], .nil => rfl
  | _, _ :: _, .cons (.int _) r => by rw [List.map_cons, ← r.ofInts]
theorem blsOf_eq : ∀ {xs : List Val} {ns : List Bool}, blsOf xs = some ns → xs = ns.map Val.bl
  | [], ns, h => by simp [blsOf] at h; subst h; rfl
  | x :: xs, ns, h => by
    cases x with
    | bl i =>
      simp only [blsOf, Option.map_eq_some_iff] at h
      obtain ⟨ms, h1, h2⟩ := h
      subst h2
      rw [List.map_cons, ← blsOf_eq h1]
    | _ => simp [blsOf] at h
theorem RVs.ofBls : ∀ {vs : List V} {ns : List Bool}, RVs K N vs (ns.map Val.bl) → vs = ns.map V.bl
  | _, [], .nil => rfl
  | _, _ :: _, .cons (.bl _) r => by rw [List.map_cons, ← r.ofBls]
end

/-! ### slots that are read -/
inductive SV (K : PySem.W.Frag) (N : Hp) : L2.St → Env → Prop
  | nil : SV K N [] []
  | un {s : Option V} {σ : L2.St} {env : Env} : SV K N σ env → SV K N (s :: σ) (.un :: env)
  | sh {v : V} {x : Val} {σ : L2.St} {env : Env} : RV K N v x → SV K N σ env → SV K N (some v :: σ) (.sh x :: env)
  | oL {v : V} {xs : List Val} {σ : L2.St} {env : Env} : RV K N v (.lst xs) → SV K N σ env → SV K N (some v :: σ) (.oL xs :: env)
  | oD {v : V} {xs : List (Key × Val)} {σ : L2.St} {env : Env} : RV K N v (.dct xs) → SV K N σ env → SV K N (some v :: σ) (.oD xs :: env)
section
variable {K : PySem.W.Frag} {N N' : Hp} {σ : L2.St} {env : Env}
theorem SV.mono (e : Sub N N') (h : SV K N σ env) : SV K N' σ env := by
  induction h with
  | nil => exact .nil
  | un _ ih => exact .un ih
  | sh r _ ih => exact .sh (r.mono e) ih
  | oL r _ ih => exact .oL (r.mono e) ih
  | oD r _ ih => exact .oD (r.mono e) ih
theorem SV.len (h : SV K N σ env) : σ.length = env.length := by
  induction h with
  | nil => rfl
  | un _ ih => exact congrArg (· + 1) ih
  | sh r _ ih => exact congrArg (· + 1) ih
  | oL r _ ih => exact congrArg (· + 1) ih
  | oD r _ ih => exact congrArg (· + 1) ih
theorem SV.sh_at (h : SV K N σ env) {i : Nat} {x : Val} (e : env[i]? = some (.sh x)) : ∃ v, σ[i]? = some (some v) ∧ RV K N v x := by
  induction h generalizing i with
  | nil => simp at e
  | un _ ih =>
    cases i with
    | zero => simp at e
    | succ i => simpa using ih (by simpa using e)
  | sh r _ ih =>
    cases i with
    | zero => simp at e; subst e; exact ⟨_, rfl, r⟩
    | succ i => simpa using ih (by simpa using e)
  | oL r _ ih =>
    cases i with
    | zero => simp at e
    | succ i => simpa using ih (by simpa using e)
  | oD r _ ih =>
    cases i with
    | zero => simp at e
    | succ i => simpa using ih (by simpa using e)
theorem SV.oL_at (h : SV K N σ env) {i : Nat} {x : List Val} (e : env[i]? = some (.oL x)) : ∃ v, σ[i]? = some (some v) ∧ RV K N v (.lst x) := by
  induction h generalizing i with
  | nil => simp at e
  | un _ ih =>
    cases i with
    | zero => simp at e
    | succ i => simpa using ih (by simpa using e)
  | oL r _ ih =>
    cases i with
    | zero => simp at e; subst e; exact ⟨_, rfl, r⟩
    | succ i => simpa using ih (by simpa using e)
  | sh r _ ih =>
    cases i with
    | zero => simp at e
    | succ i => simpa using ih (by simpa using e)
  | oD r _ ih =>
    cases i with
    | zero => simp at e
    | succ i => simpa using ih (by simpa using e)
theorem SV.oD_at (h : SV K N σ env) {i : Nat} {x : List (Key × Val)} (e : env[i]? = some (.oD x)) : ∃ v, σ[i]? = some (some v) ∧ RV K N v (.dct x) := by
  induction h generalizing i with
  | nil => simp at e
  | un _ ih =>
    cases i with
    | zero => simp at e
    | succ i => simpa using ih (by simpa using e)
  | oD r _ ih =>
    cases i with
    | zero => simp at e; subst e; exact ⟨_, rfl, r⟩
    | succ i => simpa using ih (by simpa using e)
  | sh r _ ih =>
    cases i with
    | zero => simp at e
    | succ i => simpa using ih (by simpa using e)
  | oL r _ ih =>
    cases i with
    | zero => simp at e
    | succ i => simpa using ih (by simpa using e)
theorem SV.set_sh (h : SV K N σ env) {i : Nat} {v : V} {x : Val} (r : RV K N v x) : SV K N (σ.set i (some v)) (env.set i (.sh x)) := by
  induction h generalizing i with
  | nil => exact .nil
  | un t ih =>
    cases i with
    | zero => exact .sh r t
    | succ i => exact .un ih
  | sh q t ih =>
    cases i with
    | zero => exact .sh r t
    | succ i => exact .sh q ih
  | oL q t ih =>
    cases i with
    | zero => exact .sh r t
    | succ i => exact .oL q ih
  | oD q t ih =>
    cases i with
    | zero => exact .sh r t
    | succ i => exact .oD q ih
theorem SV.set_un (h : SV K N σ env) {i : Nat} {s : Option V} : SV K N (σ.set i s) (env.set i .un) := by
  induction h generalizing i with
  | nil => exact .nil
  | un t ih =>
    cases i with
    | zero => exact .un t
    | succ i => exact .un ih
  | sh q t ih =>
    cases i with
    | zero => exact .un t
    | succ i => exact .sh q ih
  | oL q t ih =>
    cases i with
    | zero => exact .un t
    | succ i => exact .oL q ih
  | oD q t ih =>
    cases i with
    | zero => exact .un t
    | succ i => exact .oD q ih
theorem SV.wipe (h : SV K N σ env) : ∀ (vs : List Nat), SV K N (L2.wipe σ vs) (wipeE env vs)
  | [] => h
  | v :: vs => (SV.wipe h vs).set_un
end
end Vm

/-! The value machine over HandS: expressions. -/
namespace Vm
open PySem L2

/-- how an exception lies: heap, class, its dict -/
abbrev XRel := Hp → Value → Option Addr → Exn → Prop
structure Cn where
  XR : XRel
  W : Option WX
def ExcP (C : Cn) (σ : L2.St) (N H : Hp) (e : Exn) : Prop := ∃ w, C.W = some w ∧ ∀ cls d N' H', Gr N H N' H' → C.XR H' cls d e → w cls d σ H'
def PostR {α : Type} (C : Cn) (σ : L2.St) (N H : Hp) (r : Res α) (P : α → Hp → Hp → Prop) : Prop := match r with
  | .ok x => ∀ N' H', Gr N H N' H' → P x N' H'
  | .exc e => ExcP C σ N H e
  | .bad => False
section
variable {α β : Type} {C : Cn} {σ : L2.St} {N H N1 H1 : Hp} {r : Res α} {P : α → Hp → Hp → Prop}
theorem ExcP.step {e : Exn} (g : Gr N H N1 H1) (h : ExcP C σ N H e) : ExcP C σ N1 H1 e := by
  obtain ⟨w, h1, h2⟩ := h
  exact ⟨w, h1, fun cls d N' H' g' => h2 cls d N' H' (g.trans g')⟩
theorem PostR.step (g : Gr N H N1 H1) (h : PostR C σ N H r P) : PostR C σ N1 H1 r P := by
  cases r with
  | ok x => exact fun N' H' g' => h N' H' (g.trans g')
  | exc e => exact ExcP.step g h
  | bad => exact h
theorem PostR.now {x : α} (e : Sub N H) (h : PostR C σ N H (.ok x) P) : P x N H := h N H (Gr.refl e)
theorem PostR.imp {P' : α → Hp → Hp → Prop} (h : PostR C σ N H r P) (k : ∀ x N' H', Gr N H N' H' → P x N' H' → P' x N' H') : PostR C σ N H r P' := by
  cases r with
  | ok x => exact fun N' H' g' => k x N' H' g' (h N' H' g')
  | exc e => exact h
  | bad => exact h
/-- the first part's end, where the second part's is wanted -/
theorem PostR.bind {f : α → Res β} {P : β → Hp → Hp → Prop} (h : PostR C σ N H (r.bind f) P) : PostR C σ N H r (fun x N' H' => PostR C σ N' H' (f x) P) := by
  cases r with
  | ok x => exact fun N' H' g' => PostR.step g' h
  | exc e => exact h
  | bad => exact h
end

/-- an expression -/
def EvE (K : PySem.W.Frag) (C : Cn) (te : TE) (m : EX) : Prop := ∀ N H σ env, Sub N H → SV K N σ env → ∀ Q : VK, PostR C σ N H (m env) (fun x N' H' => ∀ v, RV K N' v x → Q v H') → te σ H Q
def EvB (K : PySem.W.Frag) (C : Cn) (tt : TT) (m : EB) : Prop := ∀ N H σ env, Sub N H → SV K N σ env → ∀ Q : Bool → Hp → Prop, PostR C σ N H (m env) (fun x _ H' => Q x H') → tt σ H Q
def EvA (K : PySem.W.Frag) (C : Cn) (ta : TA) (m : EL) : Prop := ∀ N H σ env, Sub N H → SV K N σ env → ∀ Q : List V → Hp → Prop, PostR C σ N H (m env) (fun xs N' H' => ∀ vs, RVs K N' vs xs → Q vs H') → ta σ H Q
/-- a list that is made -/
def EvF (K : PySem.W.Frag) (C : Cn) (te : TE) (m : EX) : Prop := ∀ N H σ env, Sub N H → SV K N σ env → ∀ Q : VK, PostR C σ N H (m env) (fun x N' H' => ∃ xs, x = .lst xs ∧ ∀ p vs, H' p = none → RVs K N' vs xs → Q (.ref p) (upd H' p (.lst vs))) → te σ H Q
structure SE (X : Cx) (C : Cn) (e : Expr) (te : TE) (m : EX) : Prop where
  pe : PE X e te
  ev : EvE X.K C te m
structure SB (X : Cx) (C : Cn) (e : Expr) (te : TT) (m : EB) : Prop where
  pe : PT X e te
  ev : EvB X.K C te m
structure SW (X : Cx) (C : Cn) (e : Expr) (te : TT) (m : EB) : Prop where
  pe : PW X e te
  ev : EvB X.K C te m
structure SA (X : Cx) (C : Cn) (es : List Expr) (te : TA) (m : EL) : Prop where
  pe : PA X es te
  ev : EvA X.K C te m
structure SF (X : Cx) (C : Cn) (e : Expr) (te : TE) (m : EX) : Prop where
  pe : PE X e te
  ev : EvF X.K C te m

/-- what an operation on values does -/
def OpS (K : PySem.W.Frag) (r : R2) (f : Val → Val → Res Val) : Prop := ∀ N H, Sub N H → ∀ v w x y, RV K N v x → RV K N w y → ∀ Q : VK, (∃ z, f x y = .ok z ∧ ∀ N' H', Gr N H N' H' → ∀ u, RV K N' u z → Q u H') → r v w H Q
def UnS (K : PySem.W.Frag) (r : V → Hp → VK → Prop) (f : Val → Res Val) : Prop := ∀ N H, Sub N H → ∀ v x, RV K N v x → ∀ Q : VK, (∃ z, f x = .ok z ∧ ∀ N' H', Gr N H N' H' → ∀ u, RV K N' u z → Q u H') → r v H Q
def CaS (K : PySem.W.Frag) (r : List V → Hp → VK → Prop) (f : List Val → Res Val) : Prop := ∀ N H, Sub N H → ∀ vs xs, RVs K N vs xs → ∀ Q : VK, (∃ z, f xs = .ok z ∧ ∀ N' H', Gr N H N' H' → ∀ u, RV K N' u z → Q u H') → r vs H Q
/-- f raises nothing -/
def NX {α : Type} (r : Res α) : Prop := ∀ e, r ≠ .exc e
theorem PostR.val {α : Type} {C : Cn} {σ : L2.St} {N H : Hp} {r : Res α} {P : α → Hp → Hp → Prop} (h : PostR C σ N H r P) (n : NX r) : ∃ z, r = .ok z ∧ ∀ N' H', Gr N H N' H' → P z N' H' := by
  cases r with
  | ok x => exact ⟨x, rfl, h⟩
  | exc e => exact absurd rfl (n e)
  | bad => exact h.elim

section
variable {K : PySem.W.Frag} {C : Cn} {ta tb tc : TE} {ma mb mc : EX}
theorem ev_c {v : V} {x : Val} (r : ∀ N, RV K N v x) : EvE K C (tC v) (eC x) := fun N H σ env e s Q h => h N H (Gr.refl e) v (r N)
theorem ev_var {i : Nat} : EvE K C (tVar i) (eVar i) := fun N H σ env e s Q h => by
  unfold eVar at h
  split at h
  · rename_i x hx
    obtain ⟨v, h1, h2⟩ := s.sh_at hx
    exact ⟨v, h1, h N H (Gr.refl e) v h2⟩
  · rename_i x hx
    obtain ⟨v, h1, h2⟩ := s.oL_at hx
    exact ⟨v, h1, h N H (Gr.refl e) v h2⟩
  · rename_i x hx
    obtain ⟨v, h1, h2⟩ := s.oD_at hx
    exact ⟨v, h1, h N H (Gr.refl e) v h2⟩
  · exact h.elim
theorem ev_op {r : R2} {f : Val → Val → Res Val} (hr : OpS K r f) (n : ∀ x y, NX (f x y)) (ha : EvE K C ta ma) (hb : EvE K C tb mb) : EvE K C (tOp r ta tb) (e2 f ma mb) := fun N H σ env e s Q h => by
  refine ha N H σ env e s _ (PostR.imp (PostR.bind h) fun x N1 H1 g1 h1 v rv => ?_)
  refine hb N1 H1 σ env g1.nh (s.mono g1.nn) _ (PostR.imp (PostR.bind h1) fun y N2 H2 g2 h2 w rw' => ?_)
  exact hr N2 H2 g2.nh v w x y (rv.mono g2.nn) rw' Q (by
    obtain ⟨z, hz, k⟩ := h2.val (n x y)
    exact ⟨z, hz, k⟩)
theorem ev_un {r : V → Hp → VK → Prop} {f : Val → Res Val} (hr : UnS K r f) (n : ∀ x, NX (f x)) (ha : EvE K C ta ma) : EvE K C (tUn r ta) (e1 f ma) := fun N H σ env e s Q h => by
  refine ha N H σ env e s _ (PostR.imp (PostR.bind h) fun x N1 H1 g1 h1 v rv => ?_)
  exact hr N1 H1 g1.nh v x rv Q (h1.val (n x))
theorem ea_nil : EvA K C tNil aNil := fun N H σ env e s Q h => h N H (Gr.refl e) [] .nil
theorem ea_cons {t : TA} {m : EL} (ha : EvE K C ta ma) (hr : EvA K C t m) : EvA K C (tCons ta t) (aCons ma m) := fun N H σ env e s Q h => by
  refine ha N H σ env e s _ (PostR.imp (PostR.bind h) fun x N1 H1 g1 h1 v rv => ?_)
  refine hr N1 H1 σ env g1.nh (s.mono g1.nn) _ (PostR.imp (PostR.bind h1) fun xs N2 H2 g2 h2 vs rvs => ?_)
  exact h2 N2 H2 (Gr.refl g2.nh) (v :: vs) (.cons (rv.mono g2.nn) rvs)
theorem ev_cb {r : List V → Hp → VK → Prop} {f : List Val → Res Val} {t : TA} {m : EL} (hr : CaS K r f) (n : ∀ x, NX (f x)) (ha : EvA K C t m) : EvE K C (tCB r t) (eArgs f m) := fun N H σ env e s Q h => by
  refine ha N H σ env e s _ (PostR.imp (PostR.bind h) fun xs N1 H1 g1 h1 vs rvs => ?_)
  exact hr N1 H1 g1.nh vs xs rvs Q (h1.val (n xs))
theorem eb_test (ha : EvE K C ta ma) : EvB K C (tTest ta) (bVal ma) := fun N H σ env e s Q h => by
  refine ha N H σ env e s _ (PostR.imp (PostR.bind h) fun x N1 H1 g1 h1 v rv => ?_)
  cases rv with
  | bl b => exact ⟨b, rfl, PostR.now g1.nh h1⟩
  | _ => exact h1.elim
theorem eb_B (ha : EvE K C ta ma) : EvB K C (tB ta) (bVal ma) := eb_test ha
theorem eb_and {t u : TT} {m n : EB} (ha : EvB K C t m) (hb : EvB K C u n) : EvB K C (tAnd t u) (bAnd m n) := fun N H σ env e s Q h => by
  refine ha N H σ env e s _ (PostR.imp (PostR.bind h) fun x N1 H1 g1 h1 => ?_)
  cases x with
  | true => exact hb N1 H1 σ env g1.nh (s.mono g1.nn) Q h1
  | false => exact PostR.now (P := fun x _ H' => Q x H') g1.nh h1
theorem eb_or {t u : TT} {m n : EB} (ha : EvB K C t m) (hb : EvB K C u n) : EvB K C (tOr t u) (bOr m n) := fun N H σ env e s Q h => by
  refine ha N H σ env e s _ (PostR.imp (PostR.bind h) fun x N1 H1 g1 h1 => ?_)
  cases x with
  | true => exact PostR.now (P := fun x _ H' => Q x H') g1.nh h1
  | false => exact hb N1 H1 σ env g1.nh (s.mono g1.nn) Q h1
theorem eb_not {t : TT} {m : EB} (ha : EvB K C t m) : EvB K C (tNot t) (bNot m) := fun N H σ env e s Q h => by
  refine ha N H σ env e s _ (PostR.imp (PostR.bind h) fun x N1 H1 g1 h1 => ?_)
  exact PostR.now (P := fun x _ H' => Q x H') g1.nh h1
theorem asBl_ok {x : Val} {k : Bool} (h : asBl x = .ok k) : x = .bl k := by
  cases x <;> simp [asBl] at h
  rw [h]
theorem PostR.asBl {α : Type} {σ : L2.St} {N H : Hp} {x : Val} {f : Bool → Res α} {P : α → Hp → Hp → Prop} (h : PostR C σ N H ((asBl x).bind f) P) : ∃ k, x = .bl k ∧ PostR C σ N H (f k) P := by
  cases x with
  | bl k => exact ⟨k, rfl, h⟩
  | _ => exact h.elim
theorem ev_and (ha : EvE K C ta ma) (hb : EvE K C tb mb) : EvE K C (tAndV ta tb) (eAnd ma mb) := fun N H σ env e s Q h => by
  refine ha N H σ env e s _ (PostR.imp (PostR.bind h) fun x N1 H1 g1 h1 v rv => ?_)
  obtain ⟨k, rfl, h1⟩ := h1.asBl
  cases rv
  refine ⟨k, rfl, ?_⟩
  cases k with
  | true => exact hb N1 H1 σ env g1.nh (s.mono g1.nn) Q h1
  | false => exact h1 N1 H1 (Gr.refl g1.nh) _ (.bl false)
theorem ev_or (ha : EvE K C ta ma) (hb : EvE K C tb mb) : EvE K C (tOrV ta tb) (eOr ma mb) := fun N H σ env e s Q h => by
  refine ha N H σ env e s _ (PostR.imp (PostR.bind h) fun x N1 H1 g1 h1 v rv => ?_)
  obtain ⟨k, rfl, h1⟩ := h1.asBl
  cases rv
  refine ⟨k, rfl, ?_⟩
  cases k with
  | true => exact h1 N1 H1 (Gr.refl g1.nh) _ (.bl true)
  | false => exact hb N1 H1 σ env g1.nh (s.mono g1.nn) Q h1
theorem ev_not (ha : EvE K C ta ma) : EvE K C (tNotV ta) (eNot ma) := fun N H σ env e s Q h => by
  refine ha N H σ env e s _ (PostR.imp (PostR.bind h) fun x N1 H1 g1 h1 v rv => ?_)
  obtain ⟨k, rfl, h1⟩ := h1.asBl
  cases rv
  exact ⟨k, rfl, h1 N1 H1 (Gr.refl g1.nh) _ (.bl _)⟩
theorem ev_if {t : TT} {m : EB} (ht : EvB K C t m) (ha : EvE K C ta ma) (hb : EvE K C tb mb) : EvE K C (tIf t ta tb) (eIf m ma mb) := fun N H σ env e s Q h => by
  refine ht N H σ env e s _ (PostR.imp (PostR.bind h) fun x N1 H1 g1 h1 => ?_)
  cases x with
  | true => exact ha N1 H1 σ env g1.nh (s.mono g1.nn) Q h1
  | false => exact hb N1 H1 σ env g1.nh (s.mono g1.nn) Q h1
theorem ev_chain {r r' : R2} {f g : Val → Val → Res Val} (hr : OpS K r f) (hr' : OpS K r' g) (n : ∀ x y, NX (f x y)) (n' : ∀ x y, NX (g x y)) (ha : EvE K C ta ma) (hb : EvE K C tb mb) (hc : EvE K C tc mc) : EvE K C (tChain r r' ta tb tc) (eChain f g ma mb mc) := fun N H σ env e s Q h => by
  refine ha N H σ env e s _ (PostR.imp (PostR.bind h) fun x N1 H1 g1 h1 v rv => ?_)
  refine hb N1 H1 σ env g1.nh (s.mono g1.nn) _ (PostR.imp (PostR.bind h1) fun y N2 H2 g2 h2 w rw' => ?_)
  obtain ⟨z, hz, k⟩ := (PostR.bind h2).val (n x y)
  refine hr N2 H2 g2.nh v w x y (rv.mono g2.nn) rw' _ ⟨z, hz, fun N3 H3 g3 u ru => ?_⟩
  obtain ⟨b, rfl, k3⟩ := (k N3 H3 g3).asBl
  cases ru
  refine ⟨b, rfl, ?_⟩
  cases b with
  | false => exact k3 N3 H3 (Gr.refl g3.nh) _ (.bl false)
  | true =>
    refine hc N3 H3 σ env g3.nh ((s.mono g1.nn).mono (fun a o q => g3.nn a o (g2.nn a o q))) _ (PostR.imp (PostR.bind k3) fun c N4 H4 g4 h4 w' rc => ?_)
    exact hr' N4 H4 g4.nh w w' y c ((rw'.mono g3.nn).mono g4.nn) rc Q (h4.val (n' y c))
end
theorem len_line {n : Nat} (h : n ≤ 16777216) : n ≤ sizeLine := by rw [sizeLine_eq]; exact h
section
variable {K : PySem.W.Frag} {C : Cn} {t : TA} {m : EL}
theorem ev_tup (ha : EvA K C t m) : EvE K C (tTup t) (eArgs vTup m) := fun N H σ env e s Q h => by
  refine ha N H σ env e s _ (PostR.imp (PostR.bind h) fun xs N1 H1 g1 h1 vs rvs => ?_)
  unfold vTup at h1
  split at h1
  · rename_i hl
    refine ⟨len_line (by rw [rvs.length]; exact hl), fun p hp => ?_⟩
    have g2 := Gr.new (o := .tup vs) g1.nh hp
    exact h1 _ _ g2 _ (.tup (SqT.of upd_same) (rvs.mono g2.nn))
  · exact h1.elim
theorem ef_lst (ha : EvA K C t m) : EvF K C (tLst t) (eArgs vLst m) := fun N H σ env e s Q h => by
  refine ha N H σ env e s _ (PostR.imp (PostR.bind h) fun xs N1 H1 g1 h1 vs rvs => ?_)
  unfold vLst at h1
  split at h1
  · rename_i hl
    obtain ⟨ys, e1, h2⟩ := h1 N1 H1 (Gr.refl g1.nh)
    cases e1
    exact ⟨len_line (by rw [rvs.length]; exact hl), fun p hp => h2 p vs hp rvs⟩
  · exact h1.elim
end
/-- a list that is made, as a value -/
theorem EvF.e {K : PySem.W.Frag} {C : Cn} {te : TE} {m : EX} (hl : ∀ env x, m env = .ok x → ∃ xs, x = .lst xs) (h : EvF K C te m) : EvE K C te m := fun N H σ env e s Q k => by
  refine h N H σ env e s Q ?_
  cases hm : m env with
  | bad => rw [hm] at k; exact k
  | exc x => rw [hm] at k; exact k
  | ok x =>
    rw [hm] at k
    obtain ⟨xs, rfl⟩ := hl env x hm
    refine fun N1 H1 g1 => ⟨xs, rfl, fun p vs hp rvs => ?_⟩
    have g2 := Gr.new (o := .lst vs) g1.nh hp
    exact k _ _ (g1.trans g2) _ (.lst (SqL.of upd_same) (rvs.mono g2.nn))
end Vm

/-! The value machine over HandS: operators. -/
namespace Vm
open PySem L2 PyProof.Rows
theorem line_eq : (sizeLine : Nat) = 16777216 := sizeLine_eq
theorem OpR.or {X : Cx} {f : Value → Value → Sem Value} {r r' : R2} (h : OpR X f r) (h' : OpR X f r') : OpR X f (fun x y H Q => r x y H Q ∨ r' x y H Q) := by
  intro pins s σ H x y v u Q I rx ry q
  rcases q with q | q
  · exact h pins s σ H x y v u Q I rx ry q
  · exact h' pins s σ H x y v u Q I rx ry q
def rCatS (K : PySem.W.Frag) : R2 := fun x y H Q => ∃ l b xs zs, x = .ref l ∧ y = .ref b ∧ SqL K H l xs ∧ SqL K H b zs ∧ xs.length + zs.length ≤ sizeLine ∧ ∀ p, H p = none → Q (.ref p) (upd H p (.lst (xs ++ zs)))
theorem op_catS {X : Cx} : OpR X (binaryOp .Add) (rCatS X.K) := by
  intro pins s σ H x y v u Q I rx ry h
  obtain ⟨l, b, xs, zs, rfl, rfl, hH, hB, hz, q⟩ := h
  cases rx
  cases ry
  obtain ⟨its, r, p1, z1⟩ := I.list hH
  obtain ⟨its2, r2, p2, z2⟩ := I.list hB
  obtain ⟨⟨cls, dd, data, sl⟩, ho, hc, n, hd⟩ := p1.isList
  obtain ⟨⟨cls2, dd2, data2, sl2⟩, ho2, hc2, n2, hd2⟩ := p2.isList
  simp only at hc hd hc2 hd2
  subst hc hd hc2 hd2
  have hl := r.length
  have hl2 := r2.length
  have ea : its.toArray ++ its2.toArray = (its ++ its2).toArray := by simp
  refine concat_meets ⟨_, ho, rfl⟩ ⟨_, ho2, rfl⟩ noFill_list_add seq_list_add PySem.F.slot_list_add PySem.F.entry_list_add (PySem.F.args_list_add_2 _ _) (list_addW l b its.toArray its2.toArray n n2 dd dd2 sl sl2 (by simp only [List.size_toArray]; omega)) ⟨ho, ho2, ?_⟩
  rw [ea]
  exact ⟨.ref _, _, I.lnew (t' := s.toks) (r.append r2) (by rw [List.length_append]; omega), rfl, q _ I.fresh⟩

def rAddV (K : PySem.W.Frag) : R2 := fun x y H Q => (rI0 fun i j => .int (i + j)) x y H Q ∨ (∃ i j, x = .str i ∧ y = .str j ∧ i.length + j.length ≤ sizeLine ∧ Q (.str (i ++ j)) H) ∨ rCatS K x y H Q ∨ rCatT K x y H Q
theorem op_addV {X : Cx} : OpR X (binaryOp .Add) (rAddV X.K) := OpR.or op_add (OpR.or op_add_str (OpR.or op_catS op_catT))
def rMulV : R2 := rI CMul fun i j => .int (i * j)
def rDivV : R2 := rI CDivW fun i j => .int (i / j)
def rModV : R2 := rI (fun _ j => 0 < j) fun i j => .int (i % j)
def rPowV : R2 := rI CPow fun i j => .int (i ^ j.toNat)
def rEqV (K : PySem.W.Frag) : R2 := fun x y H Q => rEq x y H Q ∨ rEqD K x y H Q
def rNeV (K : PySem.W.Frag) : R2 := fun x y H Q => rNe x y H Q ∨ rNeD K x y H Q
theorem op_eqV {X : Cx} (hu : X.A.units + 64 < cLine) : OpR X (compareOp .Eq) (rEqV X.K) := OpR.or op_eq (op_eqD hu)
theorem op_neV {X : Cx} (hu : X.A.units + 64 < cLine) : OpR X (compareOp .NotEq) (rNeV X.K) := OpR.or op_ne (op_neD hu)
def rInV (K : PySem.W.Frag) : R2 := fun x y H Q => rIn K false x y H Q ∨ (∃ (c : Nat) (z : Str), x = .str ⟨#[c]⟩ ∧ y = .str z ∧ Q (.bl (decide (c ∈ z.cps.toList))) H)
def rNotInV (K : PySem.W.Frag) : R2 := fun x y H Q => rIn K true x y H Q ∨ (∃ (c : Nat) (z : Str), x = .str ⟨#[c]⟩ ∧ y = .str z ∧ Q (.bl (!decide (c ∈ z.cps.toList))) H)
theorem op_inV {X : Cx} : OpR X (compareOp .In) (rInV X.K) := OpR.or op_in_seq op_in_sign
theorem op_notInV {X : Cx} : OpR X (compareOp .NotIn) (rNotInV X.K) := OpR.or op_notIn_seq op_notIn_sign
def rIsN : R2 := fun x y H Q => y = .non ∧ Q (.bl (decide (x = .non))) H
def rNotN : R2 := fun x y H Q => y = .non ∧ Q (.bl (!decide (x = .non))) H

/-! ### no exceptions -/
theorem nx_ok {α : Type} {a : α} : NX (Res.ok a) := fun _ h => nomatch h
theorem nx_bad {α : Type} : NX (Res.bad : Res α) := fun _ h => nomatch h
theorem nx_ofOpt {α : Type} {o : Option α} : NX (Res.ofOpt o) := by cases o <;> exact fun _ h => nomatch h
theorem nx_bind {α β : Type} {r : Res α} {f : α → Res β} (h : NX r) (k : ∀ a, NX (f a)) : NX (r.bind f) := by
  cases r with
  | ok a => exact k a
  | exc e => exact absurd rfl (h e)
  | bad => exact fun _ h => nomatch h
theorem nx_ite {α : Type} {c : Prop} [Decidable c] {a b : Res α} (h1 : NX a) (h2 : NX b) : NX (if c then a else b) := by split <;> assumption
theorem nx_eqR (x y : Val) : NX (eqR x y) := by unfold eqR; exact nx_ite nx_ok (nx_ite nx_ok nx_bad)
section
variable (x y : Val)
theorem nx_add : NX (vAdd x y) := by unfold vAdd; split <;> first | exact nx_ok | exact nx_ite nx_ok nx_bad | exact nx_bad
theorem nx_sub : NX (vSub x y) := by unfold vSub; split <;> first | exact nx_ok | exact nx_bad
theorem nx_mul : NX (vMul x y) := by unfold vMul; split <;> first | exact nx_ite nx_ok nx_bad | exact nx_bad
theorem nx_div : NX (vDiv x y) := by unfold vDiv; split <;> first | exact nx_ite nx_ok nx_bad | exact nx_bad
theorem nx_mod : NX (vMod x y) := by unfold vMod; split <;> first | exact nx_ite nx_ok nx_bad | exact nx_bad
theorem nx_pow : NX (vPow x y) := by unfold vPow; split <;> first | exact nx_ite nx_ok nx_bad | exact nx_bad
theorem nx_neg : NX (vNeg x) := by unfold vNeg; split <;> first | exact nx_ok | exact nx_bad
theorem nx_lt : NX (vLt x y) := by unfold vLt; split <;> first | exact nx_ok | exact nx_bad
theorem nx_le : NX (vLe x y) := by unfold vLe; split <;> first | exact nx_ok | exact nx_bad
theorem nx_gt : NX (vGt x y) := by unfold vGt; split <;> first | exact nx_ok | exact nx_bad
theorem nx_ge : NX (vGe x y) := by unfold vGe; split <;> first | exact nx_ok | exact nx_bad
theorem nx_eq : NX (vEq x y) := by unfold vEq; exact nx_bind (nx_eqR x y) fun _ => nx_ok
theorem nx_ne : NX (vNe x y) := by unfold vNe; exact nx_bind (nx_eqR x y) fun _ => nx_ok
theorem nx_in : NX (vInS x y) := by
  unfold vInS
  split
  · exact nx_ite nx_ok nx_bad
  · exact nx_ite nx_ok nx_bad
  · split <;> first | exact nx_ok | exact nx_bad
  · exact nx_bad
theorem nx_not {r : Res Val} (h : NX r) : NX (rNot r) := by
  cases r with
  | ok a => unfold rNot; split <;> first | exact nx_ok | exact nx_bad | (rename_i e; cases e)
  | exc e => exact absurd rfl (h e)
  | bad => exact nx_bad
theorem nx_notIn : NX (vNotInS x y) := nx_not (nx_in x y)
theorem nx_is : NX (vIs x y) := by unfold vIs; split <;> first | exact nx_ok | exact nx_bad
theorem nx_isNot : NX (vIsNot x y) := by unfold vIsNot; split <;> first | exact nx_ok | exact nx_bad
theorem nx_ix : NX (vIxS x y) := by unfold vIxS; split <;> first | exact nx_ofOpt | exact nx_ite nx_ofOpt nx_bad | exact nx_bad
end

/-! ### what they do -/
section
variable {K : PySem.W.Frag}
theorem ops_add : OpS K (rAddV K) vAdd := by
  intro N H e v w x y rx ry Q ⟨z, hz, k⟩
  cases rx with
  | int i =>
    cases ry with
    | int j => cases hz; exact .inl ⟨i, j, rfl, rfl, k N H (Gr.refl e) _ (.int _)⟩
    | _ => cases hz
  | str i =>
    cases ry with
    | str j =>
      simp only [vAdd] at hz
      split at hz
      · cases hz; rename_i hl; exact .inr (.inl ⟨i, j, rfl, rfl, by rw [line_eq]; exact hl, k N H (Gr.refl e) _ (.str _)⟩)
      · cases hz
    | _ => cases hz
  | lst h r =>
    cases ry with
    | lst h2 r2 =>
      simp only [vAdd] at hz
      split at hz
      · cases hz
        rename_i hl
        refine .inr (.inr (.inl ⟨_, _, _, _, rfl, rfl, sq_mono e h, sq_mono e h2, by rw [line_eq, r.length, r2.length]; exact hl, fun p hp => ?_⟩))
        exact k _ _ (Gr.new e hp) _ (.lst (SqL.of upd_same) ((r.append r2).mono (Gr.new e hp).nn))
      · cases hz
    | _ => cases hz
  | tup h r =>
    cases ry with
    | tup h2 r2 =>
      simp only [vAdd] at hz
      split at hz
      · cases hz
        rename_i hl
        obtain ⟨l1, n1⟩ := hl
        refine .inr (.inr (.inr ⟨_, _, _, _, rfl, rfl, st_mono e h, st_mono e h2, fun z => ?_, by rw [line_eq, r.length, r2.length]; exact l1, fun z => ?_, fun z p hp => ?_⟩))
        · have := r.length
          rw [z] at this
          rw [List.isEmpty_eq_false_iff] at n1
          exact n1 (List.length_eq_zero_iff.mp this.symm)
        · have hy := r2.length
          rw [z] at hy
          have hy2 := List.length_eq_zero_iff.mp hy.symm
          refine k N H (Gr.refl e) _ ?_
          rw [hy2, List.append_nil]
          exact .tup h r
        · exact k _ _ (Gr.new e hp) _ (.tup (SqT.of upd_same) ((r.append r2).mono (Gr.new e hp).nn))
      · cases hz
    | _ => cases hz
  | _ => cases hz
theorem ops_I0 {g : Int → Int → Val} {gv : Int → Int → V} {f : Val → Val → Res Val} (hg : ∀ N i j, RV K N (gv i j) (g i j)) (hf : ∀ x y z, f x y = .ok z → ∃ i j, x = .int i ∧ y = .int j ∧ z = g i j) : OpS K (rI0 gv) f := by
  intro N H e v w x y rx ry Q ⟨z, hz, k⟩
  obtain ⟨i, j, rfl, rfl, rfl⟩ := hf x y z hz
  cases rx
  cases ry
  exact ⟨i, j, rfl, rfl, k N H (Gr.refl e) _ (hg N i j)⟩
theorem ops_I {c : Int → Int → Prop} {g : Int → Int → Val} {gv : Int → Int → V} {f : Val → Val → Res Val} (hg : ∀ N i j, RV K N (gv i j) (g i j)) (hf : ∀ x y z, f x y = .ok z → ∃ i j, x = .int i ∧ y = .int j ∧ c i j ∧ z = g i j) : OpS K (rI c gv) f := by
  intro N H e v w x y rx ry Q ⟨z, hz, k⟩
  obtain ⟨i, j, rfl, rfl, hc, rfl⟩ := hf x y z hz
  cases rx
  cases ry
  exact ⟨i, j, rfl, rfl, hc, k N H (Gr.refl e) _ (hg N i j)⟩
theorem ops_sub : OpS K (rI0 fun i j => .int (i - j)) vSub := ops_I0 (g := fun i j => .int (i - j)) (fun _ _ _ => .int _) fun x y z h => by
  cases x <;> cases y <;> first | (cases h; exact ⟨_, _, rfl, rfl, rfl⟩) | cases h
theorem ops_lt : OpS K (rI0 fun i j => .bl (decide (i < j))) vLt := ops_I0 (g := fun i j => .bl (decide (i < j))) (fun _ _ _ => .bl _) fun x y z h => by
  cases x <;> cases y <;> first | (cases h; exact ⟨_, _, rfl, rfl, rfl⟩) | cases h
theorem ops_le : OpS K (rI0 fun i j => .bl (decide (i ≤ j))) vLe := ops_I0 (g := fun i j => .bl (decide (i ≤ j))) (fun _ _ _ => .bl _) fun x y z h => by
  cases x <;> cases y <;> first | (cases h; exact ⟨_, _, rfl, rfl, rfl⟩) | cases h
theorem ops_gt : OpS K (rI0 fun i j => .bl (decide (j < i))) vGt := ops_I0 (g := fun i j => .bl (decide (j < i))) (fun _ _ _ => .bl _) fun x y z h => by
  cases x <;> cases y <;> first | (cases h; exact ⟨_, _, rfl, rfl, rfl⟩) | cases h
theorem ops_ge : OpS K (rI0 fun i j => .bl (decide (j ≤ i))) vGe := ops_I0 (g := fun i j => .bl (decide (j ≤ i))) (fun _ _ _ => .bl _) fun x y z h => by
  cases x <;> cases y <;> first | (cases h; exact ⟨_, _, rfl, rfl, rfl⟩) | cases h
theorem ite_ok {α : Type} {c : Prop} [Decidable c] {a z : α} (h : (if c then Res.ok a else .bad) = .ok z) : c ∧ z = a := by
  split at h
  · rename_i hc; cases h; exact ⟨hc, rfl⟩
  · cases h
theorem ops_mul : OpS K rMulV vMul := ops_I (g := fun i j => .int (i * j)) (fun _ _ _ => .int _) fun x y z h => by
  unfold vMul at h
  split at h
  · rename_i i j
    obtain ⟨h1, h2⟩ := ite_ok h
    refine ⟨i, j, rfl, rfl, ?_, h2⟩
    rcases big_iff.mp h1 with h1 | h1
    · exact .inl ⟨by have := h1.1; omega, by have := h1.2; omega⟩
    · exact .inr ⟨by have := h1.1; omega, by have := h1.2; omega⟩
  · cases h
theorem ops_div : OpS K rDivV vDiv := ops_I (g := fun i j => .int (i / j)) (fun _ _ _ => .int _) fun x y z h => by
  unfold vDiv at h
  split at h
  · rename_i i j
    obtain ⟨h1, h2⟩ := ite_ok h
    have h1 := big_iff.mp h1
    exact ⟨i, j, rfl, rfl, wide_div (i := i) (b := 100) h1.1 (by have := h1.1; have := h1.2; omega) (by decide) (by decide), h2⟩
  · cases h
theorem ops_mod : OpS K rModV vMod := ops_I (g := fun i j => .int (i % j)) (fun _ _ _ => .int _) fun x y z h => by
  unfold vMod at h
  split at h
  · rename_i i j
    obtain ⟨h1, h2⟩ := ite_ok h
    exact ⟨i, j, rfl, rfl, h1, h2⟩
  · cases h
theorem ops_pow : OpS K rPowV vPow := ops_I (g := fun i j => .int (i ^ j.toNat)) (fun _ _ _ => .int _) fun x y z h => by
  unfold vPow at h
  split at h
  · rename_i i j
    obtain ⟨h1, h2⟩ := ite_ok h
    have h1 := big_iff.mp h1
    exact ⟨i, j, rfl, rfl, ⟨h1.1, h1.2.1, by have := h1.2.2; omega⟩, h2⟩
  · cases h
theorem uns_neg : UnS K (rU fun i => .int (-i)) vNeg := by
  intro N H e v x rx Q ⟨z, hz, k⟩
  cases rx with
  | int i => cases hz; exact ⟨i, rfl, k N H (Gr.refl e) _ (.int _)⟩
  | _ => cases hz
theorem eqR_ok {N H : Hp} (e : Sub N H) {v w : V} {x y : Val} {b : Bool} (rx : RV K N v x) (ry : RV K N w y) (h : eqR x y = .ok b) : (L2.scal v w = true ∧ decide (v = w) = b) ∨ ∃ d d', Dp K H v d ∧ Dp K H w d' ∧ SeqAt.shaped d = true ∧ SeqAt.shaped d' = true ∧ PyData.eqv d d' = b := by
  unfold eqR at h
  split at h
  · rename_i hs
    cases h
    exact .inl (rx.scal ry hs)
  · obtain ⟨h1, h2⟩ := ite_ok h
    simp only [Bool.and_eq_true, decide_eq_true_eq] at h1
    obtain ⟨⟨a1, a2⟩, a3, a4⟩ := h1
    refine .inr ⟨toD x, toD y, RV.dp x (rx.mono e) a1, RV.dp y (ry.mono e) a3, shaped_toD a1 a2, shaped_toD a3 a4, ?_⟩
    rw [h2]
    exact eqv_toD x y a1 a3
theorem ops_eq : OpS K (rEqV K) vEq := by
  intro N H e v w x y rx ry Q ⟨z, hz, k⟩
  unfold vEq at hz
  cases hr : eqR x y with
  | bad => rw [hr] at hz; cases hz
  | exc _ => rw [hr] at hz; cases hz
  | ok b =>
    rw [hr] at hz
    cases hz
    rcases eqR_ok e rx ry hr with ⟨h1, h2⟩ | ⟨d, d', h1, h2, h3, h4, h5⟩
    · exact .inl ⟨h1, by rw [h2]; exact k N H (Gr.refl e) _ (.bl _)⟩
    · exact .inr ⟨d, d', h1, h2, h3, h4, by rw [h5]; exact k N H (Gr.refl e) _ (.bl _)⟩
theorem ops_ne : OpS K (rNeV K) vNe := by
  intro N H e v w x y rx ry Q ⟨z, hz, k⟩
  unfold vNe at hz
  cases hr : eqR x y with
  | bad => rw [hr] at hz; cases hz
  | exc _ => rw [hr] at hz; cases hz
  | ok b =>
    rw [hr] at hz
    cases hz
    rcases eqR_ok e rx ry hr with ⟨h1, h2⟩ | ⟨d, d', h1, h2, h3, h4, h5⟩
    · exact .inl ⟨h1, by rw [h2]; exact k N H (Gr.refl e) _ (.bl _)⟩
    · exact .inr ⟨d, d', h1, h2, h3, h4, by rw [h5]; exact k N H (Gr.refl e) _ (.bl _)⟩
theorem in_seq {N H : Hp} (e : Sub N H) {v w : V} {x y : Val} {xs : List Val} (rx : RV K N v x) (ry : RV K N w y) (hy : y = .lst xs ∨ y = .tup xs) (h : (x.isFlat && xs.all Val.isFlat) = true) :
    ∃ p vs, w = .ref p ∧ (SqL K H p vs ∨ SqT K H p vs) ∧ flatV v = true ∧ vs.all flatV = true ∧ inV v vs = inFlat x xs := by
  rw [Bool.and_eq_true] at h
  obtain ⟨h1, h2⟩ := rx.flat h.1
  rcases hy with rfl | rfl
  · cases ry with
    | lst hs r =>
      obtain ⟨h3, h4⟩ := r.flats h.2
      exact ⟨_, _, rfl, .inl (sq_mono e hs), h2, h4, by rw [h1, h3, inV_of h.1 h.2]⟩
  · cases ry with
    | tup hs r =>
      obtain ⟨h3, h4⟩ := r.flats h.2
      exact ⟨_, _, rfl, .inr (st_mono e hs), h2, h4, by rw [h1, h3, inV_of h.1 h.2]⟩
theorem in_cases {x y z : Val} (h : vInS x y = .ok z) : (∃ xs, (y = .lst xs ∨ y = .tup xs) ∧ (x.isFlat && xs.all Val.isFlat) = true ∧ z = .bl (inFlat x xs)) ∨ ∃ c s, x = .str ⟨#[c]⟩ ∧ y = .str s ∧ z = .bl (decide (c ∈ s.cps.toList)) := by
  unfold vInS at h
  split at h
  · obtain ⟨h1, h2⟩ := ite_ok h
    exact .inl ⟨_, .inl rfl, h1, h2⟩
  · obtain ⟨h1, h2⟩ := ite_ok h
    exact .inl ⟨_, .inr rfl, h1, h2⟩
  · rename_i a b
    split at h
    · rename_i c hc
      cases h
      refine .inr ⟨c, b, ?_, rfl, rfl⟩
      obtain ⟨⟨l⟩⟩ := a
      simp only at hc
      rw [hc]
    · cases h
  · cases h
theorem ops_in : OpS K (rInV K) vInS := by
  intro N H e v w x y rx ry Q ⟨z, hz, k⟩
  rcases in_cases hz with ⟨xs, hy, hf, rfl⟩ | ⟨c, s, rfl, rfl, rfl⟩
  · obtain ⟨p, vs, h1, h2, h3, h4, h5⟩ := in_seq e rx ry hy hf
    refine .inl ⟨p, vs, h1, h2, h3, h4, ?_⟩
    rw [h5]
    exact k N H (Gr.refl e) _ (.bl _)
  · cases rx
    cases ry
    exact .inr ⟨c, s, rfl, rfl, k N H (Gr.refl e) _ (.bl _)⟩
theorem ops_notIn : OpS K (rNotInV K) vNotInS := by
  intro N H e v w x y rx ry Q ⟨z, hz, k⟩
  unfold vNotInS at hz
  cases hr : vInS x y with
  | bad => rw [hr] at hz; cases hz
  | exc _ => rw [hr] at hz; cases hz
  | ok b =>
    rw [hr] at hz
    rcases in_cases hr with ⟨xs, hy, hf, rfl⟩ | ⟨c, s, rfl, rfl, rfl⟩
    · cases hz
      obtain ⟨p, vs, h1, h2, h3, h4, h5⟩ := in_seq e rx ry hy hf
      refine .inl ⟨p, vs, h1, h2, h3, h4, ?_⟩
      rw [h5]
      exact k N H (Gr.refl e) _ (.bl _)
    · cases hz
      cases rx
      cases ry
      exact .inr ⟨c, s, rfl, rfl, k N H (Gr.refl e) _ (.bl _)⟩
theorem RV.nonV {N : Hp} {v : V} {x : Val} (r : RV K N v x) : decide (v = .non) = (match x with | .non => true | _ => false) := by cases r <;> first | rfl | simp
theorem ops_is : OpS K rIsN vIs := by
  intro N H e v w x y rx ry Q ⟨z, hz, k⟩
  cases ry with
  | non =>
    refine ⟨rfl, ?_⟩
    rw [rx.nonV]
    cases rx <;> (cases hz; exact k N H (Gr.refl e) _ (.bl _))
  | _ => cases rx <;> cases hz
theorem ops_isNot : OpS K rNotN vIsNot := by
  intro N H e v w x y rx ry Q ⟨z, hz, k⟩
  cases ry with
  | non =>
    refine ⟨rfl, ?_⟩
    rw [rx.nonV]
    cases rx <;> (cases hz; exact k N H (Gr.refl e) _ (.bl _))
  | _ => cases rx <;> cases hz
end
end Vm

/-! The value machine over HandS: subscripts, slices, targets, what is walked, comprehensions. -/
namespace Vm
open PySem L2
section
variable {K : PySem.W.Frag} {C : Cn}
/-! ### subscripts, slices -/
theorem ops_ix : OpS K (rIx K) vIxS := by
  intro N H e v w x y rx ry Q ⟨z, hz, k⟩
  cases rx with
  | lst h r =>
    cases ry with
    | int i =>
      simp only [vIxS] at hz
      cases ha : Vm.atI _ i with
      | none => rw [ha] at hz; cases hz
      | some y =>
        rw [ha] at hz
        cases hz
        unfold Vm.atI at ha
        cases hj : ixNat _ i with
        | none => rw [hj] at ha; cases ha
        | some j =>
          rw [hj] at ha
          obtain ⟨u, h1, h2⟩ := r.get (show _[j]? = some z from ha)
          refine .inl ⟨_, _, i, u, rfl, rfl, sq_mono e h, ?_, k N H (Gr.refl e) u h2⟩
          unfold L2.atI
          rw [r.length, show L2.ixN _ i = some j from hj]
          exact h1
    | _ => cases hz
  | tup h r =>
    cases ry with
    | int i =>
      simp only [vIxS] at hz
      cases ha : Vm.atI _ i with
      | none => rw [ha] at hz; cases hz
      | some y =>
        rw [ha] at hz
        cases hz
        unfold Vm.atI at ha
        cases hj : ixNat _ i with
        | none => rw [hj] at ha; cases ha
        | some j =>
          rw [hj] at ha
          obtain ⟨u, h1, h2⟩ := r.get (show _[j]? = some z from ha)
          refine .inr (.inl ⟨_, _, i, u, rfl, rfl, st_mono e h, ?_, k N H (Gr.refl e) u h2⟩)
          unfold L2.atI
          rw [r.length, show L2.ixN _ i = some j from hj]
          exact h1
    | _ => cases hz
  | str s =>
    cases ry with
    | int i =>
      simp only [vIxS] at hz
      split at hz
      · rename_i hl
        cases ha : Vm.atI s.cps.toList i with
        | none => rw [ha] at hz; cases hz
        | some c =>
          rw [ha] at hz
          cases hz
          exact .inr (.inr ⟨s, i, c, rfl, rfl, len_line hl, ha, k N H (Gr.refl e) _ (.str _)⟩)
      · cases hz
    | _ => cases hz
  | _ => cases ry <;> cases hz
def rSlV (K : PySem.W.Frag) : V → Option Int → Option Int → Hp → VK → Prop := fun x lo hi H Q => rSlL K x lo hi H Q ∨ (rSlT K x lo hi H Q ∨ rSlS x lo hi H Q)
theorem sl_V {X : Cx} : SlR X (rSlV X.K) := sl_list.or (sl_tup.or sl_str)
def SlS (K : PySem.W.Frag) (r : V → Option Int → Option Int → Hp → VK → Prop) : Prop := ∀ N H, Sub N H → ∀ v x lo hi, RV K N v x → ∀ Q : VK, (∃ z, vCut x lo hi = .ok z ∧ ∀ N' H', Gr N H N' H' → ∀ u, RV K N' u z → Q u H') → r v lo hi H Q
theorem RVs.cut {N : Hp} {vs : List V} {xs : List Val} (r : RVs K N vs xs) (lo hi : Option Int) : RVs K N (cutV vs lo hi) (Vm.cut xs lo hi) := by
  unfold cutV Vm.cut
  rw [r.length]
  exact (r.drop _).take _
theorem sls : SlS K (rSlV K) := by
  intro N H e v x lo hi rx Q ⟨z, hz, k⟩
  cases rx with
  | lst h r =>
    cases hz
    refine .inl ⟨_, _, rfl, sq_mono e h, fun p hp => ?_⟩
    exact k _ _ (Gr.new e hp) _ (.lst (SqL.of upd_same) ((r.cut lo hi).mono (Gr.new e hp).nn))
  | tup h r =>
    simp only [vCut] at hz
    split at hz
    · cases hz
    · rename_i hw
      cases hz
      refine .inr (.inl ⟨_, _, rfl, st_mono e h, by rw [r.length]; exact hw, fun p hp => ?_⟩)
      exact k _ _ (Gr.new e hp) _ (.tup (SqT.of upd_same) ((r.cut lo hi).mono (Gr.new e hp).nn))
  | str s =>
    simp only [vCut] at hz
    split at hz
    · rename_i hl
      cases hz
      exact .inr (.inr ⟨s, rfl, len_line hl, k N H (Gr.refl e) _ (.str _)⟩)
    · cases hz
  | _ => cases hz
theorem nx_cut (x : Val) (l h : Option Int) : NX (vCut x l h) := by
  unfold vCut
  split
  · exact nx_ok
  · exact nx_ite nx_ok nx_bad
  · exact nx_ite nx_bad nx_ok
  · exact nx_bad
/-- a slice's part -/
def EvO (K : PySem.W.Frag) (C : Cn) (to : TO) (m : Option EX) : Prop := ∀ N H σ env, Sub N H → SV K N σ env → ∀ Q : Option Int → Hp → Prop, PostR C σ N H (partOf m env) (fun x _ H' => Q x H') → to σ H Q
theorem eo_none : EvO K C tNoPart none := fun N H σ env e s Q h => PostR.now (P := fun x _ H' => Q x H') e h
theorem eo_some {ta : TE} {ma : EX} (ha : EvE K C ta ma) : EvO K C (tPart ta) (some ma) := fun N H σ env e s Q h => by
  refine ha N H σ env e s _ (PostR.imp (PostR.bind h) fun x N1 H1 g1 h1 v rv => ?_)
  cases rv with
  | int i => exact ⟨i, rfl, PostR.now (P := fun x _ H' => Q x H') g1.nh h1⟩
  | _ => exact h1.elim
theorem ev_cut {ta : TE} {ma : EX} {tl th : TO} {lo hi : Option EX} (ha : EvE K C ta ma) (hl : EvO K C tl lo) (hh : EvO K C th hi) : EvE K C (tSl (rSlV K) ta tl th) (eCut ma lo hi) := fun N H σ env e s Q h => by
  refine ha N H σ env e s _ (PostR.imp (PostR.bind h) fun x N1 H1 g1 h1 v rv => ?_)
  have s1 := s.mono g1.nn
  refine hl N1 H1 σ env g1.nh s1 _ (PostR.imp (PostR.bind h1) fun l N2 H2 g2 h2 => ?_)
  refine hh N2 H2 σ env g2.nh (s1.mono g2.nn) _ (PostR.imp (PostR.bind h2) fun u N3 H3 g3 h3 => ?_)
  exact sls N3 H3 g3.nh v x l u ((rv.mono g2.nn).mono g3.nn) Q (h3.val (nx_cut x l u))
end

/-! ### targets -/
def setsE (env : Env) (l : List (Nat × V × Val)) : Env := l.foldl (fun e t => e.set t.1 (.sh t.2.2)) env
def setsS (σ : L2.St) (l : List (Nat × V × Val)) : L2.St := l.foldl (fun s t => s.set t.1 (some t.2.1)) σ
def EvP (K : PySem.W.Frag) (g : TG) (put : Put) (is : List Nat) : Prop := ∀ N H σ env v x env', Sub N H → RV K N v x → put x env = .ok env' → ∀ Q : L2.St → Hp → Prop, (∀ l : List (Nat × V × Val), (∀ t ∈ l, t.1 ∈ is ∧ RV K N t.2.1 t.2.2) → env' = setsE env l → Q (setsS σ l) H) → g v σ H Q
def EvPs (K : PySem.W.Frag) (g : TGs) (is : List Nat) : Prop := ∀ N H σ env vs xs env', Sub N H → RVs K N vs xs → putAll is xs env = .ok env' → ∀ Q : L2.St → Hp → Prop, (∀ l : List (Nat × V × Val), (∀ t ∈ l, t.1 ∈ is ∧ RV K N t.2.1 t.2.2) → env' = setsE env l → Q (setsS σ l) H) → g vs σ H Q
section
variable {K : PySem.W.Frag}
theorem pName_ok {i : Nat} {x : Val} {env env' : Env} (h : pName i x env = .ok env') : i < env.length ∧ env' = env.set i (.sh x) := ite_ok h
theorem ep_name {i : Nat} : EvP K (gName i) (pName i) [i] := fun N H σ env v x env' e r hp Q k => by
  obtain ⟨_, rfl⟩ := pName_ok hp
  exact k [(i, v, x)] (fun t ht => by rw [List.mem_singleton] at ht; subst ht; exact ⟨List.mem_singleton.mpr rfl, r⟩) rfl
theorem eps_nil : EvPs K gNil [] := fun N H σ env vs xs env' e r hp Q k => by
  cases r with
  | nil =>
    cases hp
    exact ⟨rfl, k [] (fun t ht => by cases ht) rfl⟩
  | cons _ _ => cases hp
theorem eps_cons {i : Nat} {is : List Nat} {g : TGs} (h : EvPs K g is) : EvPs K (gCons (gName i) g) (i :: is) := fun N H σ env vs xs env' e r hp Q k => by
  cases r with
  | nil => cases hp
  | @cons v vs x xs r1 r2 =>
    have hp' : ((pName i x env).bind fun e => putAll is xs e) = .ok env' := hp
    cases hn : pName i x env with
    | bad => rw [hn] at hp'; cases hp'
    | exc q => rw [hn] at hp'; cases hp'
    | ok e1 =>
      rw [hn] at hp'
      obtain ⟨_, rfl⟩ := pName_ok hn
      refine ⟨v, vs, rfl, ?_⟩
      refine h N H (σ.set i (some v)) _ vs xs env' e r2 hp' Q fun l hl he => ?_
      exact k ((i, v, x) :: l) (fun t ht => by
        rcases List.mem_cons.mp ht with rfl | ht
        · exact ⟨List.mem_cons_self, r1⟩
        · exact ⟨List.mem_cons_of_mem _ (hl t ht).1, (hl t ht).2⟩) he
theorem putAll_len : ∀ {is : List Nat} {xs : List Val} {env env' : Env}, putAll is xs env = .ok env' → xs.length = is.length
  | [], [], _, _, _ => rfl
  | [], _ :: _, _, _, h => by cases h
  | _ :: _, [], _, _, h => by cases h
  | i :: is, x :: xs, env, env', h => by
    have h' : ((pName i x env).bind fun e => putAll is xs e) = .ok env' := h
    cases hn : pName i x env with
    | bad => rw [hn] at h'; cases h'
    | exc q => rw [hn] at h'; cases h'
    | ok e1 =>
      rw [hn] at h'
      rw [List.length_cons, List.length_cons, putAll_len h']
theorem ep_tup {is : List Nat} {g : TGs} (h : EvPs K g is) : EvP K (gTup K is.length g) (pTup is) is := fun N H σ env v x env' e r hp Q k => by
  cases r with
  | tup hs rs =>
    have hp' : putAll is _ env = .ok env' := hp
    exact ⟨_, _, rfl, st_mono e hs, by rw [rs.length, putAll_len hp'], h N H σ env _ _ env' e rs hp' Q k⟩
  | _ => cases hp
theorem ep_tupL {is : List Nat} {g : TGs} (h : EvPs K g is) : EvP K (gLst K is.length g) (pTupL is) is := fun N H σ env v x env' e r hp Q k => by
  cases r with
  | lst hs rs =>
    have hp' : putAll is _ env = .ok env' := hp
    exact ⟨_, _, rfl, sq_mono e hs, by rw [rs.length, putAll_len hp'], h N H σ env _ _ env' e rs hp' Q k⟩
  | _ => cases hp
theorem SV.sets {N : Hp} : ∀ {l : List (Nat × V × Val)} {σ : L2.St} {env : Env}, SV K N σ env → (∀ t ∈ l, RV K N t.2.1 t.2.2) → SV K N (setsS σ l) (setsE env l)
  | [], _, _, s, _ => s
  | t :: l, σ, env, s, h => SV.sets (l := l) (s.set_sh (h t List.mem_cons_self)) fun t' ht => h t' (List.mem_cons_of_mem _ ht)
theorem wipe_set {σ : L2.St} {i : Nat} {s : Option V} : ∀ {vs : List Nat}, i ∈ vs → L2.wipe (σ.set i s) vs = L2.wipe σ vs
  | [], h => by cases h
  | v :: vs, h => by
    show (L2.wipe (σ.set i s) vs).set v none = (L2.wipe σ vs).set v none
    by_cases hv : i ∈ vs
    · rw [wipe_set hv]
    · have e : i = v := by
        rcases List.mem_cons.mp h with h | h
        · exact h
        · exact absurd h hv
      subst e
      have : ∀ (ws : List Nat), i ∉ ws → (L2.wipe (σ.set i s) ws) = (L2.wipe σ ws).set i s := by
        intro ws
        induction ws with
        | nil => intro _; rfl
        | cons w ws ih =>
          intro hw
          rw [List.mem_cons, not_or] at hw
          show (L2.wipe (σ.set i s) ws).set w none = ((L2.wipe σ ws).set w none).set i s
          rw [ih hw.2, List.set_comm]
          exact hw.1
      rw [this vs hv, List.set_set]
theorem wipe_wipe {σ : L2.St} : ∀ {vs ws : List Nat}, (∀ v ∈ ws, v ∈ vs) → L2.wipe (L2.wipe σ ws) vs = L2.wipe σ vs
  | vs, [], _ => rfl
  | vs, w :: ws, h => by
    show L2.wipe ((L2.wipe σ ws).set w none) vs = L2.wipe σ vs
    rw [wipe_set (h w List.mem_cons_self), wipe_wipe fun v hv => h v (List.mem_cons_of_mem _ hv)]
theorem wipe_sets {vs : List Nat} : ∀ {l : List (Nat × V × Val)} {σ : L2.St}, (∀ t ∈ l, t.1 ∈ vs) → L2.wipe (setsS σ l) vs = L2.wipe σ vs
  | [], _, _ => rfl
  | t :: l, σ, h => by
    show L2.wipe (setsS (σ.set t.1 (some t.2.1)) l) vs = _
    rw [wipe_sets (l := l) fun t' ht => h t' (List.mem_cons_of_mem _ ht), wipe_set (h t List.mem_cons_self)]
end

/-! ### what is walked -/
def WalkV (K : PySem.W.Frag) (N : Hp) (J : It) (xs : List Val) : Prop := ∃ G Y, Walk J xs.length G Y ∧ (∀ H, Sub N H → G H) ∧ ∀ i H v H', i < xs.length → Sub N H → Y i H v H' → ∃ N' x, Gr N H N' H' ∧ xs[i]? = some x ∧ RV K N' v x
def EvI (K : PySem.W.Frag) (C : Cn) (wi : TI) (m : EI) : Prop := ∀ N H σ env, Sub N H → SV K N σ env → ∀ R : It → Hp → Prop, PostR C σ N H (m env) (fun xs N' H' => ∀ J, WalkV K N' J xs → R J H') → wi σ H R
structure SI (X : Cx) (C : Cn) (tg e : Expr) (wi : TI) (m : EI) : Prop where
  pi : PI X tg e wi
  ev : EvI X.K C wi m
section
variable {K : PySem.W.Frag} {C : Cn}
theorem walkV_list {N : Hp} {a : Addr} {vs : List V} {xs : List Val} (h : SqL K N a vs) (r : RVs K N vs xs) : WalkV K N (Itl K a) xs := by
  refine ⟨_, _, by rw [← r.length]; exact walk_list, fun H e => sq_mono e h, fun i H v H' hi e y => ?_⟩
  obtain ⟨rfl, hv⟩ := y
  obtain ⟨x, h1, h2⟩ := r.getV hv
  exact ⟨N, x, Gr.refl e, h1, h2⟩
theorem walkV_tup {N : Hp} {a : Addr} {vs : List V} {xs : List Val} (h : SqT K N a vs) (r : RVs K N vs xs) : WalkV K N (Itt K a) xs := by
  refine ⟨_, _, by rw [← r.length]; exact walk_tup, fun H e => st_mono e h, fun i H v H' hi e y => ?_⟩
  obtain ⟨rfl, hv⟩ := y
  obtain ⟨x, h1, h2⟩ := r.getV hv
  exact ⟨N, x, Gr.refl e, h1, h2⟩
theorem walkV_range {N : Hp} {lo : Int} {n : Nat} : WalkV K N (Itr lo n) (rangeL lo n) := by
  have hl : (rangeL lo n).length = n := by unfold rangeL; rw [List.length_map, List.length_range]
  refine ⟨_, _, by rw [hl]; exact walk_range, fun _ _ => trivial, fun i H v H' hi e y => ?_⟩
  obtain ⟨rfl, rfl⟩ := y
  rw [hl] at hi
  refine ⟨N, .int (lo + (i : Int)), Gr.refl e, ?_, .int _⟩
  unfold rangeL
  rw [List.getElem?_map, List.getElem?_range hi]
  rfl
theorem walkV_str {N : Hp} {z : Str} : WalkV K N (Its z) (z.cps.toList.map fun c => .str ⟨#[c]⟩) := by
  have hl : (z.cps.toList.map fun c => Val.str ⟨#[c]⟩).length = z.cps.size := by rw [List.length_map, Array.length_toList]
  refine ⟨_, _, by rw [hl]; exact walk_str, fun _ _ => trivial, fun i H v H' hi e y => ?_⟩
  obtain ⟨rfl, c, hc, rfl⟩ := y
  refine ⟨N, .str ⟨#[c]⟩, Gr.refl e, ?_, .str _⟩
  rw [List.getElem?_map, Array.getElem?_toList, hc]
  rfl
/-- a list, a tuple or a text, walked -/
def iSeqT (K : PySem.W.Frag) (tl : TE) : TI := fun σ H R => tl σ H fun x H1 => (∃ a, x = .ref a ∧ (∃ xs, SqL K H1 a xs) ∧ R (Itl K a) H1) ∨ (∃ a, x = .ref a ∧ (∃ xs, SqT K H1 a xs) ∧ R (Itt K a) H1) ∨ ∃ z, x = .str z ∧ R (Its z) H1
theorem PIE.of_list {X : Cx} {tg l : Expr} {pins : List (Addr × Obj)} {σ : L2.St} {H1 : Hp} {s1 : Shared} {R : It → Hp → Prop} {a : Addr} {xs : List V} (I1 : Inv X pins σ H1 s1) (hq : SqL X.K H1 a xs) (q : R (Itl X.K a) H1) :
    wpAny (model X.prog X.w) X.A (pyIter (.ref a)) (PIE X pins σ tg R) X.xe s1 := by
  obtain ⟨its, rv, p, hz⟩ := I1.list hq
  refine wpAny_pyIter_list p.isList ?_
  refine ⟨s1.heap.objs.size, [s1.heap.objs.size], _, _, H1, rfl, I1.kept (t' := s1.toks) fun b o e => Heap.get?_push_of_some _ e, turn_list a _, ⟨_, Heap.get?_push_size _ rfl, rfl, rfl⟩, fun b hb => ?_, q⟩
  have e : b = s1.heap.objs.size := by simpa using hb
  subst e
  exact I1.fpOk (Nat.le_refl _) (I1.hok.fresh (Nat.le_refl _))
theorem PIE.of_tup {X : Cx} {tg l : Expr} {pins : List (Addr × Obj)} {σ : L2.St} {H1 : Hp} {s1 : Shared} {R : It → Hp → Prop} {a : Addr} {xs : List V} (I1 : Inv X pins σ H1 s1) (hq : SqT X.K H1 a xs) (q : R (Itt X.K a) H1) :
    wpAny (model X.prog X.w) X.A (pyIter (.ref a)) (PIE X pins σ tg R) X.xe s1 := by
  obtain ⟨its, rv, p, hz⟩ := I1.tuple hq
  refine wpAny_pyIter_tuple (show s1.heap.IsTuple a its.toArray from p) ?_
  refine ⟨s1.heap.objs.size, [s1.heap.objs.size], _, _, H1, rfl, I1.kept (t' := s1.toks) fun b o e => Heap.get?_push_of_some _ e, turn_tuple a _, ⟨_, Heap.get?_push_size _ rfl, rfl, rfl⟩, fun b hb => ?_, q⟩
  have e : b = s1.heap.objs.size := by simpa using hb
  subst e
  exact I1.fpOk (Nat.le_refl _) (I1.hok.fresh (Nat.le_refl _))
/-- two ways of what a value gives, one walk -/
theorem pi_seqT {X : Cx} {tg l : Expr} {tl : TE} (hl : PE X l tl) : PI X tg l (iSeqT X.K tl) := by
  refine ⟨fun pins s σ H R I h => ?_⟩
  refine thn (hl.run pins s σ H _ I h) fun v s1 ⟨x, H1, I1, r1, q1⟩ => ?_
  rcases q1 with ⟨a, e, ⟨xs, hq⟩, q⟩ | ⟨a, e, ⟨xs, hq⟩, q⟩ | ⟨z, e, q⟩
  · subst e
    cases r1
    exact PIE.of_list (l := l) I1 hq q
  · subst e
    cases r1
    exact PIE.of_tup (l := l) I1 hq q
  · subst e
    obtain ⟨t, rfl⟩ := r1
    cases ha : z.cps.all (· < 128)
    · exact wpAny_pyIter_wide ha (pi_one (tk := s1.toks) I1 _ (turn_str _ z t "str_iterator" (.inr rfl)) ⟨_, Heap.get?_push_size _ rfl, rfl, rfl⟩ q)
    · exact wpAny_pyIter_ascii ha (pi_one (tk := s1.toks) I1 _ (turn_str _ z t "str_ascii_iterator" (.inl rfl)) ⟨_, Heap.get?_push_size _ rfl, rfl, rfl⟩ q)
theorem ei_seq {ta : TE} {ma : EX} (ha : EvE K C ta ma) : EvI K C (iSeqT K ta) (iSeq ma) := fun N H σ env e s R h => by
  refine ha N H σ env e s _ (PostR.imp (PostR.bind h) fun x N1 H1 g1 h1 v rv => ?_)
  cases rv with
  | lst hs r => exact .inl ⟨_, rfl, ⟨_, sq_mono g1.nh hs⟩, h1 N1 H1 (Gr.refl g1.nh) _ (walkV_list hs r)⟩
  | tup hs r => exact .inr (.inl ⟨_, rfl, ⟨_, st_mono g1.nh hs⟩, h1 N1 H1 (Gr.refl g1.nh) _ (walkV_tup hs r)⟩)
  | str z => exact .inr (.inr ⟨z, rfl, h1 N1 H1 (Gr.refl g1.nh) _ walkV_str⟩)
  | _ => exact h1.elim
theorem smallI_ok {i : Int} (h : smallI i = true) : -(2 ^ 62) ≤ i ∧ i < 2 ^ 62 := by
  have h := big_iff.mp h
  exact ⟨by have := h.1; omega, by have := h.2; omega⟩
theorem PostR.ite {α : Type} {σ : L2.St} {N H : Hp} {c : Prop} [Decidable c] {a : α} {P : α → Hp → Hp → Prop} (h : PostR C σ N H (if c then .ok a else .bad) P) : c ∧ PostR C σ N H (.ok a) P := by
  split at h
  · rename_i hc; exact ⟨hc, h⟩
  · exact h.elim
theorem ei_range1 {ta : TE} {ma : EX} (ha : EvE K C ta ma) : EvI K C (iRng1 (tCons ta tNil)) (iRange1 ma) := fun N H σ env e s R h => by
  refine ha N H σ env e s _ (PostR.imp (PostR.bind h) fun x N1 H1 g1 h1 v rv => ?_)
  cases rv with
  | int j =>
    obtain ⟨hs, h2⟩ := PostR.ite h1
    obtain ⟨s1, s2⟩ := smallI_ok hs
    exact ⟨j, rfl, s1, s2, h2 N1 H1 (Gr.refl g1.nh) _ walkV_range⟩
  | _ => exact h1.elim
theorem ei_range2 {ta tb : TE} {ma mb : EX} (ha : EvE K C ta ma) (hb : EvE K C tb mb) : EvI K C (iRng2 (tCons ta (tCons tb tNil))) (iRange2 ma mb) := fun N H σ env e s R h => by
  refine ha N H σ env e s _ (PostR.imp (PostR.bind h) fun x N1 H1 g1 h1 v rv => ?_)
  refine hb N1 H1 σ env g1.nh (s.mono g1.nn) _ (PostR.imp (PostR.bind h1) fun y N2 H2 g2 h2 w rw' => ?_)
  cases rv with
  | int i =>
    cases rw' with
    | int j =>
      obtain ⟨hs, h3⟩ := PostR.ite h2
      rw [Bool.and_eq_true] at hs
      obtain ⟨s1, s2⟩ := smallI_ok hs.1
      obtain ⟨s3, s4⟩ := smallI_ok hs.2
      exact ⟨i, j, rfl, ⟨s1, s2, s3, s4⟩, h3 N2 H2 (Gr.refl g2.nh) _ walkV_range⟩
    | _ => exact h2.elim
  | _ => exact h2.elim
theorem enumL_get : ∀ (xs : List Val) (n i : Nat), (enumL n xs)[i]? = xs[i]?.map fun x => .tup [.int ((n + i : Nat) : Int), x]
  | [], n, i => by simp [enumL]
  | x :: xs, n, 0 => by simp [enumL]
  | x :: xs, n, i + 1 => by
    show (enumL (n + 1) xs)[i]? = _
    rw [enumL_get xs (n + 1) i, List.getElem?_cons_succ, show n + 1 + i = n + (i + 1) by omega]
theorem enumL_len : ∀ (xs : List Val) (n : Nat), (enumL n xs).length = xs.length
  | [], _ => rfl
  | x :: xs, n => congrArg (· + 1) (enumL_len xs (n + 1))
theorem zipL_get : ∀ (xs ys : List Val) (i : Nat) (x y : Val), xs[i]? = some x → ys[i]? = some y → (zipL xs ys)[i]? = some (.tup [x, y])
  | [], _, i, x, y, h, _ => by simp at h
  | _ :: _, [], i, x, y, _, h => by simp at h
  | a :: xs, b :: ys, 0, x, y, h, h' => by simp at h h'; subst h h'; rfl
  | a :: xs, b :: ys, i + 1, x, y, h, h' => zipL_get xs ys i x y (by simpa using h) (by simpa using h')
theorem zipL_len : ∀ (xs ys : List Val), (zipL xs ys).length = min xs.length ys.length
  | [], _ => by simp [zipL]
  | _ :: _, [] => by simp [zipL]
  | _ :: xs, _ :: ys => by
    show (zipL xs ys).length + 1 = _
    rw [zipL_len xs ys, List.length_cons, List.length_cons]
    omega
theorem walkV_enum {N : Hp} {a : Addr} {vs : List V} {xs : List Val} (h : SqL K N a vs) (r : RVs K N vs xs) : WalkV K N (Ite K a) (enumL 0 xs) := by
  refine ⟨_, _, by rw [enumL_len, ← r.length]; exact walk_enum, fun H e => sq_mono e h, fun i H v H' hi e y => ?_⟩
  obtain ⟨T, x, z, rfl, hT, rfl, h1, h2⟩ := y
  cases h1
  obtain ⟨u, h3, h4⟩ := r.getV h2
  have g := Gr.new (o := .tup [.int (i : Nat), z]) e hT
  refine ⟨_, .tup [.int ((0 + i : Nat) : Int), u], g, by rw [enumL_get, h3]; rfl, ?_⟩
  rw [Nat.zero_add]
  exact .tup (SqT.of upd_same) (.cons (.int _) (.cons (h4.mono g.nn) .nil))
theorem walkV_zip {N : Hp} {a b : Addr} {vs ws : List V} {xs ys : List Val} (h : SqL K N a vs) (h' : SqL K N b ws) (r : RVs K N vs xs) (r' : RVs K N ws ys) : WalkV K N (Itz K a b) (zipL xs ys) := by
  refine ⟨fun H => SqL K H a vs ∧ SqL K H b ws, _, by rw [zipL_len, ← r.length, ← r'.length]; exact walk_zip rfl, fun H e => ⟨sq_mono e h, sq_mono e h'⟩, fun i H v H' hi e y => ?_⟩
  obtain ⟨T, x, z, rfl, hT, rfl, h1, h2⟩ := y
  obtain ⟨u, h3, h4⟩ := r.getV h1
  obtain ⟨u', h5, h6⟩ := r'.getV h2
  have g := Gr.new (o := .tup [x, z]) e hT
  exact ⟨_, _, g, zipL_get xs ys i u u' h3 h5, .tup (SqT.of upd_same) (.cons (h4.mono g.nn) (.cons (h6.mono g.nn) .nil))⟩
theorem ei_enum {ta : TE} {ma : EX} (ha : EvE K C ta ma) : EvI K C (iEnum K (tCons ta tNil)) (iEnumV ma) := fun N H σ env e s R h => by
  refine ha N H σ env e s _ (PostR.imp (PostR.bind h) fun x N1 H1 g1 h1 v rv => ?_)
  cases rv with
  | lst hs r => exact ⟨_, _, rfl, sq_mono g1.nh hs, h1 N1 H1 (Gr.refl g1.nh) _ (walkV_enum hs r)⟩
  | _ => exact h1.elim
theorem ei_zip {ta tb : TE} {ma mb : EX} (ha : EvE K C ta ma) (hb : EvE K C tb mb) : EvI K C (iZip K (tCons ta (tCons tb tNil))) (iZipV ma mb) := fun N H σ env e s R h => by
  refine ha N H σ env e s _ (PostR.imp (PostR.bind h) fun x N1 H1 g1 h1 v rv => ?_)
  refine hb N1 H1 σ env g1.nh (s.mono g1.nn) _ (PostR.imp (PostR.bind h1) fun y N2 H2 g2 h2 w rw' => ?_)
  have rv2 := rv.mono g2.nn
  cases rv2 with
  | lst hs r =>
    cases rw' with
    | lst hs' r' => exact ⟨_, _, _, _, rfl, sq_mono g2.nh hs, sq_mono g2.nh hs', h2 N2 H2 (Gr.refl g2.nh) _ (walkV_zip hs hs' r r')⟩
    | _ => exact h2.elim
  | _ => exact h2.elim
end

/-! ### comprehensions -/
abbrev C0 (C : Cn) : Cn := { C with W := none }
theorem PostR.nx {α : Type} {C : Cn} {σ : L2.St} {N H : Hp} {r : Res α} {P : α → Hp → Hp → Prop} (h : PostR C σ N H r.nx P) : ∃ x, r = .ok x ∧ ∀ N' H', Gr N H N' H' → P x N' H' := by
  cases r with
  | ok x => exact ⟨x, rfl, h⟩
  | exc e => exact h.elim
  | bad => exact h.elim
theorem nx_eq_ok {α : Type} {r : Res α} {x : α} (h : r.nx = .ok x) : r = .ok x := by
  cases r with
  | ok a => exact h
  | exc e => cases h
  | bad => cases h
section
variable {K : PySem.W.Frag} {C : Cn}
/-- one turn's way through the comprehension -/
theorem compL_cons {put : Put} {tt : EB} {el : EX} {env : Env} {x : Val} {xs r : List Val} (h : compL put tt el env (x :: xs) = .ok r) :
    ∃ e b, put x env = .ok e ∧ tt e = .ok b ∧ ((b = true ∧ ∃ y r', el e = .ok y ∧ compL put tt el env xs = .ok r' ∧ r = y :: r') ∨ (b = false ∧ compL put tt el env xs = .ok r)) := by
  unfold compL at h
  cases h1 : put x env with
  | bad => rw [h1] at h; cases h
  | exc q => rw [h1] at h; cases h
  | ok e =>
    rw [h1] at h
    replace h : ((tt e).nx.bind fun b => bif b then (el e).nx.bind fun y => (compL put tt el env xs).bind fun r => .ok (y :: r) else compL put tt el env xs) = .ok r := h
    cases h2 : tt e with
    | bad => rw [h2] at h; cases h
    | exc q => rw [h2] at h; cases h
    | ok b =>
      rw [h2] at h
      refine ⟨e, b, rfl, h2, ?_⟩
      cases b with
      | false => exact .inr ⟨rfl, h⟩
      | true =>
        replace h : ((el e).nx.bind fun y => (compL put tt el env xs).bind fun r => .ok (y :: r)) = .ok r := h
        cases h3 : el e with
        | bad => rw [h3] at h; cases h
        | exc q => rw [h3] at h; cases h
        | ok y =>
          rw [h3] at h
          replace h : ((compL put tt el env xs).bind fun r => .ok (y :: r)) = .ok r := h
          cases h4 : compL put tt el env xs with
          | bad => rw [h4] at h; cases h
          | exc q => rw [h4] at h; cases h
          | ok r' =>
            rw [h4] at h
            cases h
            exact .inl ⟨rfl, y, r', rfl, rfl, rfl⟩
theorem compL_len {put : Put} {tt : EB} {el : EX} {env : Env} : ∀ {xs r : List Val}, compL put tt el env xs = .ok r → r.length ≤ xs.length
  | [], r, h => by cases h; exact Nat.le_refl _
  | x :: xs, r, h => by
    obtain ⟨e, b, _, _, h1 | h1⟩ := compL_cons h
    · obtain ⟨_, y, r', _, h2, rfl⟩ := h1
      have := compL_len h2
      simp only [List.length_cons]
      omega
    · have := compL_len h1.2
      simp only [List.length_cons]
      omega
theorem ef_comp {wi : TI} {it : EI} {g : TG} {put : Put} {is own : List Nat} {tt : TT} {te : TE} {mt : EB} {me : EX} (hi : EvI K C wi it) (hp : EvP K g put is) (hsub : ∀ i ∈ is, i ∈ own)
    (ht : EvB K (C0 C) tt mt) (he : EvE K (C0 C) te me) : EvF K C (tLc wi g tt te own) (eComp it own put mt me) := fun N H σ env e s Q h => by
  refine hi N H σ env e s _ (PostR.imp (PostR.bind h) fun xs N1 H1 g1 h1 J hJ => ?_)
  intro D hD
  split at h1
  · rename_i hsz
    obtain ⟨G, Y, w, hG, hY⟩ := hJ
    cases hc : compL put mt me (wipeE env own) xs with
    | bad => rw [hc] at h1; exact h1.elim
    | exc q =>
      exfalso
      have : ∀ (xs : List Val), compL put mt me (wipeE env own) xs ≠ .exc q := by
        intro xs
        induction xs with
        | nil => intro h; cases h
        | cons x xs ih =>
          intro h
          unfold compL at h
          cases h1 : put x (wipeE env own) with
          | bad => rw [h1] at h; cases h
          | exc q => rw [h1] at h; cases h
          | ok e =>
            rw [h1] at h
            replace h : ((mt e).nx.bind fun b => bif b then (me e).nx.bind fun y => (compL put mt me (wipeE env own) xs).bind fun r => .ok (y :: r) else compL put mt me (wipeE env own) xs) = .exc q := h
            cases h2 : mt e with
            | bad => rw [h2] at h; cases h
            | exc q => rw [h2] at h; cases h
            | ok b =>
              rw [h2] at h
              cases b with
              | false => exact ih h
              | true =>
                replace h : ((me e).nx.bind fun y => (compL put mt me (wipeE env own) xs).bind fun r => .ok (y :: r)) = .exc q := h
                cases h3 : me e with
                | bad => rw [h3] at h; cases h
                | exc q => rw [h3] at h; cases h
                | ok y =>
                  rw [h3] at h
                  replace h : ((compL put mt me (wipeE env own) xs).bind fun r => .ok (y :: r)) = .exc q := h
                  cases h4 : compL put mt me (wipeE env own) xs with
                  | bad => rw [h4] at h; cases h
                  | exc q' => rw [h4] at h; cases h; exact ih h4
                  | ok r' => rw [h4] at h; cases h
      exact this xs hc
    | ok r =>
      rw [hc] at h1
      have fin : ∀ N' H', Gr N1 H1 N' H' → ∀ p vs, H' p = none → RVs K N' vs r → Q (.ref p) (upd H' p (.lst vs)) := fun N' H' g p vs => by
        obtain ⟨ys, e1, h2⟩ := (show ∀ N' H', Gr N1 H1 N' H' → ∃ ys, Val.lst r = .lst ys ∧ ∀ p vs, H' p = none → RVs K N' vs ys → Q (.ref p) (upd H' p (.lst vs)) from h1) N' H' g
        cases e1
        exact h2 p vs
      have s1 : SV K N1 σ env := s.mono g1.nn
      refine lc_it w (fun i H' => ∃ N' Hn acc ys rest, Gr N1 H1 N' Hn ∧ Hn D = none ∧ H' = upd Hn D (.lst acc) ∧ RVs K N' acc ys ∧ acc.length ≤ i ∧ compL put mt me (wipeE env own) (xs.drop i) = .ok rest ∧ ys ++ rest = r)
        ⟨N1, H1, [], [], r, Gr.refl g1.nh, hD, rfl, .nil, Nat.zero_le _, by rw [List.drop_zero]; exact hc, rfl⟩ ?_ ?_ ?_
      · rintro i H' hi ⟨N', Hn, acc, ys, rest, g2, hn, rfl, _⟩
        exact hG _ fun a o q => by
          have := g2.nh a o (g2.nn a o q)
          rw [upd_ne (ne_of_none this hn)]
          exact this
      · rintro i x Hi Hx hi ⟨N', Hn, acc, ys, rest, g2, hn, rfl, hacc, hlen, hrest, hr⟩ y
        -- the turn's item
        have sb : Sub N1 (upd Hn D (.lst acc)) := fun a o q => by
          have := g2.nh a o (g2.nn a o q)
          rw [upd_ne (ne_of_none this hn)]
          exact this
        have sb' : Sub N' (upd Hn D (.lst acc)) := fun a o q => by
          have := g2.nh a o q
          rw [upd_ne (ne_of_none this hn)]
          exact this
        obtain ⟨Nx, xv, gx, hxi, rx⟩ := hY i _ x Hx hi sb y
        rw [List.drop_eq_getElem_cons hi] at hrest
        have hxe : xs[i] = xv := by rw [List.getElem?_eq_getElem hi] at hxi; exact Option.some.inj hxi
        rw [hxe] at hrest
        obtain ⟨e1, b, hput, hb, hways⟩ := compL_cons hrest
        -- the frozen part at this turn: both what the turns before and what the item made
        let Nu : Hp := fun a => if Nx a = none then N' a else Nx a
        have u1 : Sub Nx Nu := fun a o q => by show (if Nx a = none then N' a else Nx a) = some o; rw [if_neg (by rw [q]; simp)]; exact q
        have u2 : Sub Nu Hx := fun a o q => by
          have q' : (if Nx a = none then N' a else Nx a) = some o := q
          by_cases hz : Nx a = none
          · rw [if_pos hz] at q'; exact gx.hh a o (sb' a o q')
          · rw [if_neg hz] at q'; exact gx.nh a o q'
        have u3 : Sub N' Nu := fun a o q => by
          show (if Nx a = none then N' a else Nx a) = some o
          by_cases hz : Nx a = none
          · rw [if_pos hz]; exact q
          · rw [if_neg hz]
            cases hq : Nx a with
            | none => exact absurd hq hz
            | some o' =>
              have h1 := gx.nh a o' hq
              have h2 := gx.hh a o (sb' a o q)
              rw [h1] at h2
              exact h2
        have u4 : ∀ a, Nu a ≠ none → N' a ≠ none ∨ Hn a = none := fun a q => by
          have q' : (if Nx a = none then N' a else Nx a) ≠ none := q
          by_cases hz : Nx a = none
          · rw [if_pos hz] at q'; exact .inl q'
          · rcases gx.nw a hz with h1 | h1
            · cases hq : N1 a with
              | none => exact absurd hq h1
              | some o => exact .inl (by rw [g2.nn a o hq]; simp)
            · right
              cases hq : Hn a with
              | none => rfl
              | some o =>
                have hne : a ≠ D := ne_of_none hq hn
                rw [upd_ne hne, hq] at h1
                cases h1
        have rxu : RV K Nu x xv := rx.mono u1
        refine hp Nu Hx (L2.wipe σ own) (wipeE env own) x xv e1 u2 rxu hput _ fun l hl he1 => ?_
        refine ⟨by rw [wipe_sets (fun t ht => hsub _ (hl t ht).1), wipe_wipe fun v hv => hv], ?_⟩
        have s2 : SV K Nu (setsS (L2.wipe σ own) l) e1 := by
          rw [he1]
          exact ((s1.mono (fun a o q => u3 a o (g2.nn a o q))).wipe own).sets fun t ht => (hl t ht).2
        -- the heap with D's list hidden again
        have hDx : Hx D = some (.lst acc) := gx.hh D _ upd_same
        refine ht Nu Hx _ e1 u2 s2 _ ?_
        rw [hb]
        intro N3 H3 g3
        have hD3 : H3 D = some (.lst acc) := g3.hh D _ hDx
        -- from a state behind: take D out of the frozen part and out of the heap
        have back : ∀ {N4 H4 : Hp}, Gr Nu Hx N4 H4 → ∃ H5, Gr N1 H1 N4 H5 ∧ H5 D = none ∧ Sub N' N4 ∧ ∀ o, upd H5 D o = upd H4 D o := fun {N4 H4} g4 => by
          have n4 : N4 D = none := by
            cases hq : N4 D with
            | none => rfl
            | some o =>
              rcases g4.nw D (by rw [hq]; simp) with h1 | h1
              · rcases u4 D h1 with h2 | h2
                · cases hq2 : N' D with
                  | none => exact absurd hq2 h2
                  | some o2 => have := g2.nh D o2 hq2; rw [hn] at this; cases this
                · -- Nu D known, yet Hn D = none: D is the list itself
                  cases hq2 : Nu D with
                  | none => exact absurd hq2 h1
                  | some o2 =>
                    exfalso
                    have q' : (if Nx D = none then N' D else Nx D) = some o2 := hq2
                    by_cases hz : Nx D = none
                    · rw [if_pos hz] at q'
                      have := g2.nh D o2 q'
                      rw [hn] at this
                      cases this
                    · rcases gx.nw D hz with h3 | h3
                      · cases hq3 : N1 D with
                        | none => exact absurd hq3 h3
                        | some o3 => have := g1.nh D o3 hq3; rw [hD] at this; cases this
                      · rw [upd_same] at h3; cases h3
              · rw [hDx] at h1; cases h1
          refine ⟨fun a => if a = D then none else H4 a, ⟨fun a o q => ?_, fun a o q => g4.nn a o (u3 a o (g2.nn a o q)), fun a o q => ?_, fun a q => ?_⟩, if_pos rfl, fun a o q => g4.nn a o (u3 a o q), fun o => ?_⟩
          · have hne : a ≠ D := ne_of_none q hD
            show (if a = D then none else H4 a) = some o
            rw [if_neg hne]
            refine g4.hh a o (gx.hh a o ?_)
            rw [upd_ne hne]
            exact g2.hh a o q
          · show (if a = D then none else H4 a) = some o
            rw [if_neg (fun z => by rw [z, n4] at q; cases q)]
            exact g4.nh a o q
          · rcases g4.nw a q with h1 | h1
            · rcases u4 a h1 with h2 | h2
              · exact g2.nw a h2
              · exact .inr (g2.hh.free h2)
            · right
              cases hq : H1 a with
              | none => rfl
              | some o =>
                have h2 := g2.hh a o hq
                have hne : a ≠ D := ne_of_none h2 hn
                have := gx.hh a o (by rw [upd_ne hne]; exact h2)
                rw [h1] at this
                cases this
          · funext a
            unfold upd
            by_cases ha : a = D
            · rw [if_pos ha, if_pos ha]
            · rw [if_neg ha, if_neg ha]
              show (if a = D then none else H4 a) = H4 a
              rw [if_neg ha]
        rcases hways with ⟨rfl, yv, r', hel, hr', hrr⟩ | ⟨rfl, hr'⟩
        · show te _ H3 _
          refine he N3 H3 _ e1 g3.nh (s2.mono g3.nn) _ ?_
          rw [hel]
          intro N4 H4 g4 v rv
          have g34 := g3.trans g4
          refine ⟨acc, g4.hh D _ hD3, Nat.lt_of_lt_of_le (Nat.lt_of_le_of_lt hlen hi) (Nat.le_trans hsz (by rw [line_eq]; exact Nat.le_refl _)), ?_⟩
          obtain ⟨H5, g5, h5, sub5, hu⟩ := back g34
          refine ⟨N4, H5, acc ++ [v], ys ++ [yv], r', g5, h5, (hu _).symm, (hacc.mono sub5).append (.cons rv .nil), by simp only [List.length_append, List.length_singleton]; omega, hr', by rw [← hr, hrr, List.append_assoc]; rfl⟩
        · show ∃ N' Hn acc ys rest, _
          obtain ⟨H5, g5, h5, sub5, hu⟩ := back g3
          refine ⟨N3, H5, acc, ys, rest, g5, h5, ?_, hacc.mono sub5, by omega, hr', hr⟩
          rw [hu]
          funext a
          unfold upd
          by_cases ha : a = D
          · rw [if_pos ha, ha]; exact hD3
          · rw [if_neg ha]
      · rintro H' ⟨N', Hn, acc, ys, rest, g2, hn, rfl, hacc, hlen, hrest, hr⟩
        rw [List.drop_length] at hrest
        cases hrest
        rw [List.append_nil] at hr
        subst hr
        exact fin N' Hn g2 D acc hn hacc
  · exact h1.elim
end
end Vm

/-! The value machine over HandS: built-in functions, defs. -/
namespace Vm
open PySem L2 PyProof.Rows
theorem vals3 {x y z : V} {us : List Value} (r : Vals [x, y, z] us) : ∃ u w' v', us = [u, w', v'] ∧ RelV x u ∧ RelV y w' ∧ RelV z v' := by
  cases r with
  | cons r1 r2 =>
    obtain ⟨u, w', e, h1, h2⟩ := vals2 r2
    subst e
    exact ⟨_, _, _, rfl, r1, h1, h2⟩
theorem call_max3 {X : Cx} (hc : X.calm = true) : CallR X (.builtin "max") (fun xs H Q => ∃ i j k, xs = [.int i, .int j, .int k] ∧ Q (.int (if k > (if j > i then j else i) then k else (if j > i then j else i))) H) := by
  intro pins s σ H xs us Q I r h
  obtain ⟨i, j, k, rfl, q⟩ := h
  obtain ⟨u, w', v', rfl, ⟨t, rfl⟩, ⟨t', rfl⟩, ⟨t2, rfl⟩⟩ := vals3 r
  refine max_three_ints (I.ok.hd hc) fun h' tk hk => ⟨.int (if k > (if j > i then j else i) then k else (if j > i then j else i)), H, I.kept hk, ?_, q⟩
  by_cases h1 : j > i
  · rw [if_pos h1, if_pos h1]
    by_cases h2 : k > j
    · rw [if_pos h2, if_pos h2]; exact ⟨_, rfl⟩
    · rw [if_neg h2, if_neg h2]; exact ⟨_, rfl⟩
  · rw [if_neg h1, if_neg h1]
    by_cases h2 : k > i
    · rw [if_pos h2, if_pos h2]; exact ⟨_, rfl⟩
    · rw [if_neg h2, if_neg h2]; exact ⟨_, rfl⟩
section
variable {K : PySem.W.Frag}
theorem vals1r {N : Hp} {vs : List V} {x : Val} (r : RVs K N vs [x]) : ∃ v, vs = [v] ∧ RV K N v x := by
  cases r with
  | cons h t => cases t; exact ⟨_, rfl, h⟩
theorem vals2r {N : Hp} {vs : List V} {x y : Val} (r : RVs K N vs [x, y]) : ∃ v w, vs = [v, w] ∧ RV K N v x ∧ RV K N w y := by
  cases r with
  | cons h t => obtain ⟨w, rfl, h2⟩ := vals1r t; exact ⟨_, _, rfl, h, h2⟩
theorem vals3r {N : Hp} {vs : List V} {x y z : Val} (r : RVs K N vs [x, y, z]) : ∃ v w u, vs = [v, w, u] ∧ RV K N v x ∧ RV K N w y ∧ RV K N u z := by
  cases r with
  | cons h t => obtain ⟨w, u, rfl, h2, h3⟩ := vals2r t; exact ⟨_, _, _, rfl, h, h2, h3⟩

def rLenC (K : PySem.W.Frag) : List V → Hp → VK → Prop := fun xs H Q => (∃ p ys, xs = [.ref p] ∧ (SqL K H p ys ∨ SqT K H p ys) ∧ Q (.int ys.length) H) ∨ ∃ z, xs = [.str z] ∧ z.length ≤ sizeLine ∧ Q (.int z.length) H
theorem call_lenC {X : Cx} : CallR X (.builtin "len") (rLenC X.K) := CallR.or call_len_seq call_len_str
theorem ca_len : CaS K (rLenC K) vLen := by
  intro N H e vs xs rs Q ⟨z, hz, k⟩
  unfold vLen at hz
  split at hz
  · obtain ⟨v, rfl, rv⟩ := vals1r rs
    cases hz
    cases rv with
    | lst h r => exact .inl ⟨_, _, rfl, .inl (sq_mono e h), k N H (Gr.refl e) _ (by rw [r.length]; exact .int _)⟩
  · obtain ⟨v, rfl, rv⟩ := vals1r rs
    cases hz
    cases rv with
    | tup h r => exact .inl ⟨_, _, rfl, .inr (st_mono e h), k N H (Gr.refl e) _ (by rw [r.length]; exact .int _)⟩
  · obtain ⟨v, rfl, rv⟩ := vals1r rs
    obtain ⟨h1, rfl⟩ := ite_ok hz
    cases rv
    exact .inr ⟨_, rfl, len_line h1, k N H (Gr.refl e) _ (.int _)⟩
  · cases hz
theorem nx_len (xs : List Val) : NX (vLen xs) := by
  unfold vLen
  split <;> first | exact nx_ok | exact nx_ite nx_ok nx_bad | exact nx_bad
theorem opt_ok {α : Type} {β : Type} {o : Option α} {f : α → Res β} {z : β} (h : (Res.ofOpt o).bind f = .ok z) : ∃ a, o = some a ∧ f a = .ok z := by
  cases o with
  | none => cases h
  | some a => exact ⟨a, rfl, h⟩
theorem digit_text {z : Str} {n : Int} (h : digitOf z = some n) : PySem.intText? z = some n ∧ z.length ≤ 640 := by
  obtain ⟨⟨l⟩⟩ := z
  unfold digitOf at h
  match l, h with
  | [c], h =>
    have h : (if 48 ≤ c ∧ c ≤ 57 then some ((c : Int) - 48) else none) = some n := h
    split at h
    · rename_i hc
      cases h
      refine ⟨?_, by show 1 ≤ 640; omega⟩
      have : c = 48 ∨ c = 49 ∨ c = 50 ∨ c = 51 ∨ c = 52 ∨ c = 53 ∨ c = 54 ∨ c = 55 ∨ c = 56 ∨ c = 57 := by omega
      rcases this with rfl | rfl | rfl | rfl | rfl | rfl | rfl | rfl | rfl | rfl <;> decide +kernel
    · cases h
  | [], h => cases h
  | _ :: _ :: _, h => cases h
def rIntC : List V → Hp → VK → Prop := fun xs H Q => ((∃ i, xs = [.int i] ∧ Q (.int i) H) ∨ ∃ k, xs = [.bl k] ∧ Q (.int (if k then 1 else 0)) H) ∨ ∃ a n, xs = [.str a] ∧ PySem.intText? a = some n ∧ a.length ≤ 640 ∧ Q (.int n) H
theorem call_intC {X : Cx} : CallR X (.type "int") rIntC := CallR.or call_int1 call_int_str
theorem ca_int : CaS K rIntC vInt := by
  intro N H e vs xs rs Q ⟨z, hz, k⟩
  unfold vInt at hz
  split at hz
  · obtain ⟨v, rfl, rv⟩ := vals1r rs
    obtain ⟨n, hn, hz⟩ := opt_ok hz
    cases hz
    cases rv
    obtain ⟨h1, h2⟩ := digit_text hn
    exact .inr ⟨_, _, rfl, h1, h2, k N H (Gr.refl e) _ (.int _)⟩
  · obtain ⟨v, rfl, rv⟩ := vals1r rs
    cases hz
    cases rv
    exact .inl (.inl ⟨_, rfl, k N H (Gr.refl e) _ (.int _)⟩)
  · obtain ⟨v, rfl, rv⟩ := vals1r rs
    cases hz
    cases rv
    exact .inl (.inr ⟨_, rfl, k N H (Gr.refl e) _ (.int _)⟩)
  · cases hz
theorem nx_int (xs : List Val) : NX (vInt xs) := by unfold vInt; split <;> first | exact nx_ok | exact nx_bad | exact nx_bind nx_ofOpt (fun _ => nx_ok)
theorem ca_sum : CaS K (rSum K) vSum := by
  intro N H e vs xs rs Q ⟨z, hz, k⟩
  unfold vSum at hz
  split at hz
  · obtain ⟨v, rfl, rv⟩ := vals1r rs
    obtain ⟨ns, h1, h2⟩ := opt_ok hz
    have h3 := intsOf_eq h1
    subst h3
    cases h2
    cases rv with
    | lst h r =>
      have h4 := r.ofInts
      subst h4
      exact ⟨_, ns, rfl, sq_mono e h, k N H (Gr.refl e) _ (.int _)⟩
  · cases hz
theorem nx_sum (xs : List Val) : NX (vSum xs) := by unfold vSum; split <;> first | exact nx_bind nx_ofOpt (fun _ => nx_ok) | exact nx_bad
theorem maxL_spec : ∀ (ns : List Int) (m : Int), (maxL m ns = m ∨ maxL m ns ∈ ns) ∧ m ≤ maxL m ns ∧ ∀ y ∈ ns, y ≤ maxL m ns
  | [], m => ⟨.inl rfl, Int.le_refl _, fun y h => by cases h⟩
  | x :: ns, m => by
    obtain ⟨h1, h2, h3⟩ := maxL_spec ns (if x > m then x else m)
    show (maxL (if x > m then x else m) ns = m ∨ maxL (if x > m then x else m) ns ∈ x :: ns) ∧ m ≤ maxL (if x > m then x else m) ns ∧ ∀ y ∈ x :: ns, y ≤ maxL (if x > m then x else m) ns
    by_cases hx : x > m
    · rw [if_pos hx] at h1 h2 h3 ⊢
      refine ⟨.inr ?_, by omega, fun y hy => ?_⟩
      · rcases h1 with h | h
        · rw [h]; exact List.mem_cons_self
        · exact List.mem_cons_of_mem _ h
      · rcases List.mem_cons.mp hy with rfl | hy
        · exact h2
        · exact h3 y hy
    · rw [if_neg hx] at h1 h2 h3 ⊢
      refine ⟨?_, h2, fun y hy => ?_⟩
      · rcases h1 with h | h
        · exact .inl h
        · exact .inr (List.mem_cons_of_mem _ h)
      · rcases List.mem_cons.mp hy with rfl | hy
        · omega
        · exact h3 y hy
theorem minL_spec : ∀ (ns : List Int) (m : Int), (minL m ns = m ∨ minL m ns ∈ ns) ∧ minL m ns ≤ m ∧ ∀ y ∈ ns, minL m ns ≤ y
  | [], m => ⟨.inl rfl, Int.le_refl _, fun y h => by cases h⟩
  | x :: ns, m => by
    obtain ⟨h1, h2, h3⟩ := minL_spec ns (if x < m then x else m)
    show (minL (if x < m then x else m) ns = m ∨ minL (if x < m then x else m) ns ∈ x :: ns) ∧ minL (if x < m then x else m) ns ≤ m ∧ ∀ y ∈ x :: ns, minL (if x < m then x else m) ns ≤ y
    by_cases hx : x < m
    · rw [if_pos hx] at h1 h2 h3 ⊢
      refine ⟨.inr ?_, by omega, fun y hy => ?_⟩
      · rcases h1 with h | h
        · rw [h]; exact List.mem_cons_self
        · exact List.mem_cons_of_mem _ h
      · rcases List.mem_cons.mp hy with rfl | hy
        · exact h2
        · exact h3 y hy
    · rw [if_neg hx] at h1 h2 h3 ⊢
      refine ⟨?_, h2, fun y hy => ?_⟩
      · rcases h1 with h | h
        · exact .inl h
        · exact .inr (List.mem_cons_of_mem _ h)
      · rcases List.mem_cons.mp hy with rfl | hy
        · omega
        · exact h3 y hy
theorem maxL_uniq {n m : Int} {ns : List Int} (h1 : m ∈ n :: ns) (h2 : ∀ y, y ∈ n :: ns → y ≤ m) : m = maxL n ns := by
  obtain ⟨a, b, c⟩ := maxL_spec ns n
  have h3 : maxL n ns ≤ m := by
    rcases a with a | a
    · rw [a]; exact h2 n List.mem_cons_self
    · exact h2 _ (List.mem_cons_of_mem _ a)
  have h4 : m ≤ maxL n ns := by
    rcases List.mem_cons.mp h1 with rfl | h
    · exact b
    · exact c m h
  omega
theorem minL_uniq {n m : Int} {ns : List Int} (h1 : m ∈ n :: ns) (h2 : ∀ y, y ∈ n :: ns → m ≤ y) : m = minL n ns := by
  obtain ⟨a, b, c⟩ := minL_spec ns n
  have h3 : m ≤ minL n ns := by
    rcases a with a | a
    · rw [a]; exact h2 n List.mem_cons_self
    · exact h2 _ (List.mem_cons_of_mem _ a)
  have h4 : minL n ns ≤ m := by
    rcases List.mem_cons.mp h1 with rfl | h
    · exact b
    · exact c m h
  omega
def rMaxC (K : PySem.W.Frag) : List V → Hp → VK → Prop := fun xs H Q => (∃ i j, xs = [.int i, .int j] ∧ Q (.int (if j > i then j else i)) H) ∨ (∃ i j k, xs = [.int i, .int j, .int k] ∧ Q (.int (if k > (if j > i then j else i) then k else (if j > i then j else i))) H) ∨ rMax K xs H Q
theorem call_maxC {X : Cx} (hc : X.calm = true) : CallR X (.builtin "max") (rMaxC X.K) := CallR.or (call_max2 hc) (CallR.or (call_max3 hc) (cr_max hc))
def rMinC (K : PySem.W.Frag) : List V → Hp → VK → Prop := fun xs H Q => (∃ i j, xs = [.int i, .int j] ∧ Q (.int (if j < i then j else i)) H) ∨ rMin K xs H Q
theorem call_minC {X : Cx} (hc : X.calm = true) : CallR X (.builtin "min") (rMinC X.K) := CallR.or (call_min2 hc) (cr_min hc)
theorem ca_max : CaS K (rMaxC K) vMax := by
  intro N H e vs xs rs Q ⟨z, hz, k⟩
  unfold vMax at hz
  split at hz
  · obtain ⟨v, w, rfl, r1, r2⟩ := vals2r rs
    cases hz
    cases r1
    cases r2
    exact .inl ⟨_, _, rfl, k N H (Gr.refl e) _ (.int _)⟩
  · obtain ⟨v, w, u, rfl, r1, r2, r3⟩ := vals3r rs
    cases hz
    cases r1
    cases r2
    cases r3
    exact .inr (.inl ⟨_, _, _, rfl, k N H (Gr.refl e) _ (.int _)⟩)
  · obtain ⟨v, rfl, rv⟩ := vals1r rs
    obtain ⟨ns, h1, h2⟩ := opt_ok hz
    have h3 := intsOf_eq h1
    subst h3
    split at h2
    · cases h2
    · rename_i n ns
      cases h2
      cases rv with
      | lst h r =>
        have h4 := r.ofInts
        subst h4
        exact .inr (.inr ⟨_, n :: ns, rfl, sq_mono e h, Nat.succ_pos _, fun m hm hb => k N H (Gr.refl e) _ (by rw [maxL_uniq hm hb]; exact .int _)⟩)
  · cases hz
theorem ca_min : CaS K (rMinC K) vMin := by
  intro N H e vs xs rs Q ⟨z, hz, k⟩
  unfold vMin at hz
  split at hz
  · obtain ⟨v, w, rfl, r1, r2⟩ := vals2r rs
    cases hz
    cases r1
    cases r2
    exact .inl ⟨_, _, rfl, k N H (Gr.refl e) _ (.int _)⟩
  · obtain ⟨v, rfl, rv⟩ := vals1r rs
    obtain ⟨ns, h1, h2⟩ := opt_ok hz
    have h3 := intsOf_eq h1
    subst h3
    split at h2
    · cases h2
    · rename_i n ns
      cases h2
      cases rv with
      | lst h r =>
        have h4 := r.ofInts
        subst h4
        exact .inr ⟨_, n :: ns, rfl, sq_mono e h, Nat.succ_pos _, fun m hm hb => k N H (Gr.refl e) _ (by rw [minL_uniq hm hb]; exact .int _)⟩
  · cases hz
theorem nx_max (xs : List Val) : NX (vMax xs) := by
  unfold vMax
  split
  · exact nx_ok
  · exact nx_ok
  · exact nx_bind nx_ofOpt fun ns => by split <;> first | exact nx_bad | exact nx_ok
  · exact nx_bad
theorem nx_min (xs : List Val) : NX (vMin xs) := by
  unfold vMin
  split
  · exact nx_ok
  · exact nx_bind nx_ofOpt fun ns => by split <;> first | exact nx_bad | exact nx_ok
  · exact nx_bad
theorem ca_any : CaS K (rAny K) vAny := by
  intro N H e vs xs rs Q ⟨z, hz, k⟩
  unfold vAny at hz
  split at hz
  · obtain ⟨v, rfl, rv⟩ := vals1r rs
    obtain ⟨ns, h1, h2⟩ := opt_ok hz
    have h3 := blsOf_eq h1
    subst h3
    cases h2
    cases rv with
    | lst h r =>
      have h4 := r.ofBls
      subst h4
      exact ⟨_, ns, rfl, sq_mono e h, k N H (Gr.refl e) _ (.bl _)⟩
  · cases hz
theorem ca_all : CaS K (rAll K) vAll := by
  intro N H e vs xs rs Q ⟨z, hz, k⟩
  unfold vAll at hz
  split at hz
  · obtain ⟨v, rfl, rv⟩ := vals1r rs
    obtain ⟨ns, h1, h2⟩ := opt_ok hz
    have h3 := blsOf_eq h1
    subst h3
    cases h2
    cases rv with
    | lst h r =>
      have h4 := r.ofBls
      subst h4
      exact ⟨_, ns, rfl, sq_mono e h, k N H (Gr.refl e) _ (.bl _)⟩
  · cases hz
theorem nx_any (xs : List Val) : NX (vAny xs) := by unfold vAny; split <;> first | exact nx_bind nx_ofOpt (fun _ => nx_ok) | exact nx_bad
theorem nx_all (xs : List Val) : NX (vAll xs) := by unfold vAll; split <;> first | exact nx_bind nx_ofOpt (fun _ => nx_ok) | exact nx_bad
def rListC (K : PySem.W.Frag) : List V → Hp → VK → Prop := fun xs H Q => ∃ p ys, xs = [.ref p] ∧ (SqL K H p ys ∨ SqT K H p ys) ∧ ∀ l, H l = none → Q (.ref l) (upd H l (.lst ys))
def rTupC (K : PySem.W.Frag) : List V → Hp → VK → Prop := fun xs H Q => ∃ p ys, xs = [.ref p] ∧ ((SqL K H p ys ∧ ∀ l, H l = none → Q (.ref l) (upd H l (.tup ys))) ∨ (SqT K H p ys ∧ Q (.ref p) H))
theorem ca_tupOf : CaS K (rTupC K) vTupOf := by
  intro N H e vs xs rs Q ⟨z, hz, k⟩
  unfold vTupOf at hz
  split at hz
  · obtain ⟨v, rfl, rv⟩ := vals1r rs
    cases hz
    cases rv with
    | lst h r => exact ⟨_, _, rfl, .inl ⟨sq_mono e h, fun l hl => k _ _ (Gr.new e hl) _ (.tup (SqT.of upd_same) (r.mono (Gr.new e hl).nn))⟩⟩
  · obtain ⟨v, rfl, rv⟩ := vals1r rs
    cases hz
    cases rv with
    | tup h r => exact ⟨_, _, rfl, .inr ⟨st_mono e h, k N H (Gr.refl e) _ (.tup h r)⟩⟩
  · cases hz
theorem nx_tupOf (xs : List Val) : NX (vTupOf xs) := by unfold vTupOf; split <;> first | exact nx_ok | exact nx_bad
theorem nx_listOf (xs : List Val) : NX (vListOf xs) := by unfold vListOf; split <;> first | exact nx_ok | exact nx_bad
theorem ef_listOf {C : Cn} {t : TA} {m : EL} (ha : EvA K C t m) : EvF K C (tCB (rListC K) t) (eArgs vListOf m) := fun N H σ env e s Q h => by
  refine ha N H σ env e s _ (PostR.imp (PostR.bind h) fun xs N1 H1 g1 h1 vs rs => ?_)
  unfold vListOf at h1
  split at h1
  · obtain ⟨v, rfl, rv⟩ := vals1r rs
    cases rv with
    | lst hs r =>
      obtain ⟨ys, e1, h2⟩ := h1 N1 H1 (Gr.refl g1.nh)
      cases e1
      exact ⟨_, _, rfl, .inl (sq_mono g1.nh hs), fun l hl => h2 l _ hl r⟩
  · obtain ⟨v, rfl, rv⟩ := vals1r rs
    cases rv with
    | tup hs r =>
      obtain ⟨ys, e1, h2⟩ := h1 N1 H1 (Gr.refl g1.nh)
      cases e1
      exact ⟨_, _, rfl, .inr (st_mono g1.nh hs), fun l hl => h2 l _ hl r⟩
  · exact h1.elim
/-- the list made by +, by a slice -/
theorem ef_cut {C : Cn} {ta : TE} {ma : EX} {tl th : TO} {lo hi : Option EX} (ha : EvE K C ta ma) (hl : EvO K C tl lo) (hh : EvO K C th hi) : EvF K C (tSl (rSlV K) ta tl th) (eCut ma lo hi) := fun N H σ env e s Q h => by
  refine ha N H σ env e s _ (PostR.imp (PostR.bind h) fun x N1 H1 g1 h1 v rv => ?_)
  have s1 := s.mono g1.nn
  refine hl N1 H1 σ env g1.nh s1 _ (PostR.imp (PostR.bind h1) fun l N2 H2 g2 h2 => ?_)
  refine hh N2 H2 σ env g2.nh (s1.mono g2.nn) _ (PostR.imp (PostR.bind h2) fun u N3 H3 g3 h3 => ?_)
  obtain ⟨z, hz, k⟩ := h3.val (nx_cut x l u)
  have rv3 := (rv.mono g2.nn).mono g3.nn
  obtain ⟨ys, rfl, k3⟩ := k N3 H3 (Gr.refl g3.nh)
  cases rv3 with
  | lst hs r =>
    cases hz
    exact .inl ⟨_, _, rfl, sq_mono g3.nh hs, fun p hp => k3 p _ hp (r.cut l u)⟩
  | tup hs r =>
    simp only [vCut] at hz
    split at hz <;> cases hz
  | str z =>
    simp only [vCut] at hz
    split at hz <;> cases hz
  | _ => cases hz
theorem ef_add {C : Cn} {ta tb : TE} {ma mb : EX} (ha : EvE K C ta ma) (hb : EvE K C tb mb) : EvF K C (tOp (rAddV K) ta tb) (e2 vAdd ma mb) := fun N H σ env e s Q h => by
  refine ha N H σ env e s _ (PostR.imp (PostR.bind h) fun x N1 H1 g1 h1 v rv => ?_)
  refine hb N1 H1 σ env g1.nh (s.mono g1.nn) _ (PostR.imp (PostR.bind h1) fun y N2 H2 g2 h2 w rw' => ?_)
  obtain ⟨z, hz, k⟩ := h2.val (nx_add x y)
  obtain ⟨ys, rfl, k3⟩ := k N2 H2 (Gr.refl g2.nh)
  have rv2 := rv.mono g2.nn
  unfold vAdd at hz
  split at hz
  · cases hz
  · split at hz <;> cases hz
  · obtain ⟨hl, e1⟩ := ite_ok hz
    cases e1
    cases rv2 with
    | lst h r =>
      cases rw' with
      | lst h2 r2 => exact .inr (.inr (.inl ⟨_, _, _, _, rfl, rfl, sq_mono g2.nh h, sq_mono g2.nh h2, by rw [line_eq, r.length, r2.length]; exact hl, fun p hp => k3 p _ hp (r.append r2)⟩))
  · split at hz <;> cases hz
  · cases hz
end

/-! ### isinstance of built-in types -/
def Ty.nm : Ty → String
  | .int => "int"
  | .bool => "bool"
  | .str => "str"
  | .list => "list"
  | .tuple => "tuple"
  | .dict => "dict"
def tyNm (x : Val) : String := match x.ty with
  | none => "NoneType"
  | some t => t.nm
theorem kit_tab : ∀ (t : Option Ty) (u : Ty), kitB (match t with | none => "NoneType" | some t => t.nm) u.nm = some (Ty.sub t u) := by
  intro t u
  rcases t with _ | t
  · cases u <;> decide +kernel
  · cases t <;> cases u <;> decide +kernel
section
variable {K : PySem.W.Frag} {C : Cn}
theorem RV.tyx {N H : Hp} (e : Sub N H) {v : V} {x : Val} (r : RV K N v x) : TyX K H v (.type (tyNm x)) := by
  cases r with
  | non => exact .base .non
  | bl b => exact .base (.bl b)
  | int i => exact .base (.int i)
  | str x => exact .base (.str x)
  | tup h _ =>
    rcases st_mono e h with (h | ⟨o, h⟩) | ⟨o, its, n, hk, hc, _⟩
    · exact .base (.tup h)
    · exact .fTuple h
    · exact .kTuple hk hc
  | lst h _ =>
    rcases sq_mono e h with (h | ⟨o, h⟩) | ⟨o, its, n, hk, hc, _⟩
    · exact .base (.lst h)
    · exact .base (.frz h)
    · exact .kList hk hc
  | dct h _ => exact .base (.dK (e _ _ h))
theorem ev_isi {ta : TE} {ma : EX} {u : Ty} (ha : EvE K C ta ma) : EvE K C (tCB (rIsi K) (tCons ta (tCons (tC (.ty u.nm)) tNil))) (e1 (vIsi u) ma) := fun N H σ env e s Q h => by
  refine ha N H σ env e s _ (PostR.imp (PostR.bind h) fun x N1 H1 g1 h1 v rv => ?_)
  exact ⟨v, .ty u.nm, .type (tyNm x), .type u.nm, Ty.sub x.ty u, rfl, .ty _, rv.tyx g1.nh, kit_ty (by
    have := kit_tab x.ty u
    exact this), h1 N1 H1 (Gr.refl g1.nh) _ (.bl _)⟩
end

/-! ### defs -/
/-- what a def promises: its function on values -/
def spF (K : PySem.W.Frag) (XR : XRel) (k : Nat) (f : Fn) : Sp := fun vs H Q E => ∃ N xs, Sub N H ∧ RVs K N vs xs ∧ xs.length = k ∧ (match f xs with
  | .ret y => ∀ N' H', Gr N H N' H' → ∀ v, RV K N' v y → Q v H'
  | .exc q => ∀ cls d N' H', Gr N H N' H' → XR H' cls d q → E cls d H'
  | .bad => False)
/-- a def of the module -/
structure Cal (P : Program) (w : World) (K : PySem.W.Frag) (mg : Str → Option Value) (base : Heap) (XR : XRel) (x : Str) (j k : Nat) (f : Fn) : Prop where
  ex : ∃ a fd ps, FnOk P w K mg base (L2.CX P w) j a fd ps (spF K XR k f) ∧ mg x = some (.ref a) ∧ PySem.W.keepIn K (.ref a) = true ∧ Binds K fd ps []
  ln : ∀ xs, f xs ≠ .bad → xs.length = k
/-- what is wanted of an exception, at the slots -/
def CE (C : Cn) (σ : L2.St) : XK := fun cls d H => match C.W with
  | some w => w cls d σ H
  | none => False
def Lets (X : Cx) (C : Cn) : Prop := ∀ σ, PassesAt (L2.CX X.prog X.w) X σ (CE C σ)
theorem Lets.of {X : Cx} {XR : XRel} {W : WX} (tk : Takes X W) : Lets X ⟨XR, some W⟩ := fun σ => passAt tk σ
theorem Lets.no {X : Cx} {C : Cn} : Lets X (C0 C) := fun σ pins H s e s' I c => by
  obtain ⟨_, _, _, _, _, _, _, _, _, _, _, _, z⟩ := c
  exact z.elim
theorem ev_call {K : PySem.W.Frag} {C : Cn} {k : Nat} {f : Fn} {t : TA} {m : EL} (hk : ∀ xs, f xs ≠ .bad → xs.length = k) (ha : EvA K C t m) : EvE K C (tCallS (spF K C.XR k f) (CE C) t) (eCall f m) := fun N H σ env e s Q h => by
  have hb := PostR.bind (show PostR C σ N H ((m env).bind fun xs => (f xs).res) _ from h)
  cases hm : m env with
  | bad => rw [hm] at hb; exact hb.elim
  | exc q => exact ha N H σ env e s _ (by rw [hm] at hb ⊢; exact hb)
  | ok xs0 =>
    refine ha N H σ env e s _ ?_
    rw [hm] at hb ⊢
    intro N1 H1 g1 vs rvs
    have h1 : PostR C σ N1 H1 (f xs0).res fun x N' H' => ∀ (v : V), RV K N' v x → Q v H' := hb N1 H1 g1
    refine ⟨N1, xs0, g1.nh, rvs, hk xs0 fun z => (by rw [z] at h1; exact h1), ?_⟩
    cases hf : f xs0 with
    | bad => rw [hf] at h1; exact h1
    | ret y => rw [hf] at h1; exact h1
    | exc q =>
      rw [hf] at h1
      obtain ⟨w, hw, h2⟩ := (show ExcP C σ N1 H1 q from h1)
      intro cls d N' H' g' hx
      show CE C σ cls d H'
      unfold CE
      rw [hw]
      exact h2 cls d N' H' g' hx
section
variable {X : Cx} {C : Cn}
theorem se_call {x : Str} {j k : Nat} {f : Fn} {p pos : Pos} {e : Expr} {es : List Expr} {t : TA} {m : EL} (c : Cal X.prog X.w X.K X.mg X.base C.XR x j k f) (hr : Room j X.A) (hl : Lets X C) (ha : SA X C (e :: es) t m)
    (hg : Gl X x := by rfl) (hdb : (x == ("__debug__" : Str)) = false := by decide) (he : starEach (e :: es) X.env = (false, eval e X.env) :: starEach es X.env := by rfl) (hpl : (backTo pos (starEach es X.env)).any (·.1) = false := by rfl) :
    SE X C (.Call (.Name x p) (e :: es) [] pos) (tCallS (spF X.K C.XR k f) (CE C) t) (eCall f m) := by
  obtain ⟨a, fd, ps, F, hm, hkp, hb⟩ := c.ex
  exact ⟨pe_callS F hr hg hm hkp hb hl ha.pe hdb he hpl, ev_call c.ln ha.ev⟩
end
end Vm

/-! The value machine over HandS: dicts by keys that are ints or texts. -/
namespace Vm
open PySem L2 PyProof.Rows
section
variable {K : PySem.W.Frag} {N : Hp}
theorem RKs.get {k : Key} : ∀ {vs : List (L2.Key × V)} {xs : List (Key × Val)}, RKs K N vs xs → match getV xs k with
    | some x => ∃ v, valV vs k = some v ∧ RV K N v x
    | none => valV vs k = none
  | _, _, .nil => rfl
  | _, _, .cons (k := k0) (v := v) (vs := vs) (x := x) (xs := xs) h r => by
    have ih := RKs.get (k := k) r
    by_cases e : k0 = k
    · have h1 : getV ((k0, x) :: xs) k = some x := by simp [getV, List.find?_cons, e]
      rw [h1]
      exact ⟨v, valV_pos e, h⟩
    · have h1 : getV ((k0, x) :: xs) k = getV xs k := by simp [getV, List.find?_cons, e]
      rw [h1, valV_neg e]
      exact ih
theorem RKs.some {k : Key} {vs : List (L2.Key × V)} {xs : List (Key × Val)} (r : RKs K N vs xs) : (valV vs k).isSome = (getV xs k).isSome := by
  have h := r.get (k := k)
  cases hg : getV xs k with
  | none => rw [hg] at h; simp only at h; rw [h]; rfl
  | some x => rw [hg] at h; obtain ⟨v, h1, _⟩ := h; rw [h1]; rfl
theorem RKs.length : ∀ {vs : List (L2.Key × V)} {xs : List (Key × Val)}, RKs K N vs xs → vs.length = xs.length
  | _, _, .nil => rfl
  | _, _, .cons _ r => congrArg (· + 1) r.length
theorem RKs.anyK {k : Key} : ∀ {vs : List (L2.Key × V)} {xs : List (Key × Val)}, RKs K N vs xs → (vs.any fun kv => decide (kv.1 = k)) = (xs.any fun kv => decide (kv.1 = k))
  | _, _, .nil => rfl
  | _, _, .cons _ r => by rw [List.any_cons, List.any_cons, RKs.anyK r]
theorem RKs.mapK {k : Key} {v : V} {x : Val} (h : RV K N v x) : ∀ {vs : List (L2.Key × V)} {xs : List (Key × Val)}, RKs K N vs xs → RKs K N (vs.map fun kv => if kv.1 = k then (kv.1, v) else kv) (xs.map fun kv => if kv.1 = k then (kv.1, x) else kv)
  | _, _, .nil => .nil
  | _, _, .cons (k := k0) h0 r => by
    rw [List.map_cons, List.map_cons]
    by_cases e : k0 = k
    · simp only [e, if_true]
      exact .cons h (RKs.mapK h r)
    · simp only [e, if_false]
      exact .cons h0 (RKs.mapK h r)
theorem RKs.snoc {k : Key} {v : V} {x : Val} (h : RV K N v x) : ∀ {vs : List (L2.Key × V)} {xs : List (Key × Val)}, RKs K N vs xs → RKs K N (vs ++ [(k, v)]) (xs ++ [(k, x)])
  | _, _, .nil => .cons h .nil
  | _, _, .cons h0 r => .cons h0 (RKs.snoc h r)
theorem RKs.put {k : Key} {v : V} {x : Val} {vs : List (L2.Key × V)} {xs : List (Key × Val)} (r : RKs K N vs xs) (h : RV K N v x) : RKs K N (putK vs k v) (putV xs k x) := by
  unfold putK putV
  rw [r.anyK]
  split
  · exact r.mapK h
  · exact r.snoc h
theorem RKs.merge : ∀ {ms : List (L2.Key × V)} {ys : List (Key × Val)} {vs : List (L2.Key × V)} {xs : List (Key × Val)}, RKs K N ms ys → RKs K N vs xs → RKs K N (mergeK vs ms) (mergeV xs ys)
  | [], _, _, _, .nil, r => r
  | _ :: ms, _, vs, xs, .cons (k := k) (v := v) (x := x) (xs := ys) h m, r => show RKs K N (mergeK (putK vs k v) ms) (mergeV (putV xs k x) ys) from RKs.merge m (r.put h)
theorem keyOf_rv {w : V} {y : Val} {k : Key} (r : RV K N w y) (h : keyOfV y = some k) : w = kV k := by
  cases r with
  | int i => cases h; rfl
  | str x => cases h; rfl
  | _ => cases h
end
/-! ### d[k], k in d -/
def rIxV (K : PySem.W.Frag) : R2 := fun x y H Q => rIx K x y H Q ∨ ∃ a v, x = .ref a ∧ DGet H a y (some v) ∧ Q v H
section
variable {X : Cx}
theorem ix_dK (hu : X.A.units + 1 < cLine) : IxR X (fun x y H Q => ∃ a v, x = .ref a ∧ DGet H a y (some v) ∧ Q v H) := by
  intro value slice pins s σ H x y v u Q I rx ry h hs
  obtain ⟨a, z, rfl, g, q⟩ := h
  obtain rfl : v = Value.ref a := rx
  exact tail_any (dict_typeIs I g) slot_dict_getitem.lookup (d_getItem hu I g ry fun w' s' I' rw' => ⟨z, H, I', rw', q⟩) hs
theorem ix_V (hu : X.A.units + 1 < cLine) : IxR X (rIxV X.K) := ix_seq.or (ix_dK hu)
def rInW (K : PySem.W.Frag) : R2 := fun x y H Q => rInV K x y H Q ∨ ∃ a o, y = .ref a ∧ DGet H a x o ∧ Q (.bl o.isSome) H
def rNotInW (K : PySem.W.Frag) : R2 := fun x y H Q => rNotInV K x y H Q ∨ ∃ a o, y = .ref a ∧ DGet H a x o ∧ Q (.bl (!o.isSome)) H
theorem op_inW (hu : X.A.units + 1 < cLine) : OpR X (compareOp .In) (rInW X.K) := OpR.or op_inV (by
  intro pins s σ H x y v u Q I rx ry h
  obtain ⟨a, o, rfl, g, q⟩ := h
  obtain rfl : u = Value.ref a := ry
  exact d_in hu I g rx fun s' I' => ⟨.bl o.isSome, H, I', rfl, q⟩)
theorem op_notInW (hu : X.A.units + 1 < cLine) : OpR X (compareOp .NotIn) (rNotInW X.K) := OpR.or op_notInV (by
  intro pins s σ H x y v u Q I rx ry h
  obtain ⟨a, o, rfl, g, q⟩ := h
  obtain rfl : u = Value.ref a := ry
  exact d_notIn hu I g rx fun s' I' => ⟨.bl (!o.isSome), H, I', rfl, q⟩)
end
section
variable {K : PySem.W.Frag} {C : Cn}
theorem vIx_seq {x y : Val} (h : ∀ kvs, x ≠ .dct kvs) : vIx x y = vIxS x y := by
  cases x with
  | dct kvs => exact absurd rfl (h kvs)
  | _ => rfl
theorem vIn_seq {x y : Val} (h : ∀ kvs, y ≠ .dct kvs) : vIn x y = vInS x y := by
  cases y with
  | dct kvs => exact absurd rfl (h kvs)
  | _ => rfl
theorem nx_ixV (x y : Val) : NX (vIx x y) := by
  unfold vIx
  split
  · exact nx_ofOpt
  · exact nx_ix _ _
theorem nx_inV (x y : Val) : NX (vIn x y) := by
  unfold vIn
  split
  · unfold vInD; split <;> first | exact nx_ok | exact nx_bad
  · exact nx_in _ _
theorem nx_notInV (x y : Val) : NX (vNotIn x y) := nx_not (nx_inV x y)
theorem ops_ixV : OpS K (rIxV K) vIx := by
  intro N H e v w x y rx ry Q ⟨z, hz, k⟩
  cases rx with
  | @dct a kvs ys h r =>
    have hz : Res.ofOpt ((keyOfV y).bind (getV ys)) = .ok z := hz
    cases hk : keyOfV y with
    | none => rw [hk] at hz; cases hz
    | some q =>
      rw [hk] at hz
      have hz : Res.ofOpt (getV ys q) = .ok z := hz
      have g := r.get (k := q)
      cases hg : getV ys q with
      | none => rw [hg] at hz; cases hz
      | some x =>
        rw [hg] at hz g
        cases hz
        obtain ⟨u, h1, h2⟩ := g
        refine .inr ⟨a, u, rfl, ?_, k N H (Gr.refl e) u h2⟩
        rw [keyOf_rv ry hk, ← h1]
        exact DGet.k (e _ _ h)
  | non => exact .inl (ops_ix N H e _ w .non y .non ry Q ⟨z, hz, k⟩)
  | bl b => exact .inl (ops_ix N H e _ w (.bl b) y (.bl b) ry Q ⟨z, hz, k⟩)
  | int i => exact .inl (ops_ix N H e _ w (.int i) y (.int i) ry Q ⟨z, hz, k⟩)
  | str s => exact .inl (ops_ix N H e _ w (.str s) y (.str s) ry Q ⟨z, hz, k⟩)
  | tup h r => exact .inl (ops_ix N H e _ w _ y (.tup h r) ry Q ⟨z, hz, k⟩)
  | lst h r => exact .inl (ops_ix N H e _ w _ y (.lst h r) ry Q ⟨z, hz, k⟩)
theorem ops_inW : OpS K (rInW K) vIn := by
  intro N H e v w x y rx ry Q ⟨z, hz, k⟩
  cases ry with
  | @dct a kvs ys h r =>
    have hz : vInD x ys = .ok z := hz
    unfold vInD at hz
    cases hk : keyOfV x with
    | none => rw [hk] at hz; cases hz
    | some q =>
      rw [hk] at hz
      cases hz
      refine .inr ⟨a, valV kvs q, rfl, ?_, ?_⟩
      · rw [keyOf_rv rx hk]; exact DGet.k (e _ _ h)
      · rw [r.some]; exact k N H (Gr.refl e) _ (.bl _)
  | non => exact .inl (ops_in N H e v _ x .non rx .non Q ⟨z, hz, k⟩)
  | bl b => exact .inl (ops_in N H e v _ x (.bl b) rx (.bl b) Q ⟨z, hz, k⟩)
  | int i => exact .inl (ops_in N H e v _ x (.int i) rx (.int i) Q ⟨z, hz, k⟩)
  | str s => exact .inl (ops_in N H e v _ x (.str s) rx (.str s) Q ⟨z, hz, k⟩)
  | tup h r => exact .inl (ops_in N H e v _ x _ rx (.tup h r) Q ⟨z, hz, k⟩)
  | lst h r => exact .inl (ops_in N H e v _ x _ rx (.lst h r) Q ⟨z, hz, k⟩)
theorem ops_notInW : OpS K (rNotInW K) vNotIn := by
  intro N H e v w x y rx ry Q ⟨z, hz, k⟩
  cases ry with
  | @dct a kvs ys h r =>
    have hz : rNot (vInD x ys) = .ok z := hz
    unfold vInD at hz
    cases hk : keyOfV x with
    | none => rw [hk] at hz; cases hz
    | some q =>
      rw [hk] at hz
      cases hz
      refine .inr ⟨a, valV kvs q, rfl, ?_, ?_⟩
      · rw [keyOf_rv rx hk]; exact DGet.k (e _ _ h)
      · rw [r.some]; exact k N H (Gr.refl e) _ (.bl _)
  | non => exact .inl (ops_notIn N H e v _ x .non rx .non Q ⟨z, hz, k⟩)
  | bl b => exact .inl (ops_notIn N H e v _ x (.bl b) rx (.bl b) Q ⟨z, hz, k⟩)
  | int i => exact .inl (ops_notIn N H e v _ x (.int i) rx (.int i) Q ⟨z, hz, k⟩)
  | str s => exact .inl (ops_notIn N H e v _ x (.str s) rx (.str s) Q ⟨z, hz, k⟩)
  | tup h r => exact .inl (ops_notIn N H e v _ x _ rx (.tup h r) Q ⟨z, hz, k⟩)
  | lst h r => exact .inl (ops_notIn N H e v _ x _ rx (.lst h r) Q ⟨z, hz, k⟩)
end

/-! ### {k: e, ..} -/
def EvPr (K : PySem.W.Frag) (C : Cn) (trs : List (TE × TE)) (ps : List (Key × EX)) : Prop := ∀ N H σ env, Sub N H → SV K N σ env → ∀ Q : List (V × V) → Hp → Prop, PostR C σ N H (DPairs ps env) (fun xs N' H' => ∀ vs, RKs K N' vs xs → Q (vs.map fun kv => (kV kv.1, kv.2)) H') → tPairs trs σ H Q
section
variable {K : PySem.W.Frag} {C : Cn}
theorem epr_nil : EvPr K C [] [] := fun N H σ env e s Q h => h N H (Gr.refl e) [] .nil
theorem epr_cons {k : Key} {ta : TE} {ma : EX} {trs : List (TE × TE)} {ps : List (Key × EX)} (ha : EvE K C ta ma) (hr : EvPr K C trs ps) : EvPr K C ((tC (kV k), ta) :: trs) ((k, ma) :: ps) := fun N H σ env e s Q h => by
  refine ha N H σ env e s _ (PostR.imp (PostR.bind h) fun x N1 H1 g1 h1 v rv => ?_)
  refine hr N1 H1 σ env g1.nh (s.mono g1.nn) _ (PostR.imp (PostR.bind h1) fun xs N2 H2 g2 h2 vs rvs => ?_)
  exact h2 N2 H2 (Gr.refl g2.nh) ((k, v) :: vs) (.cons (rv.mono g2.nn) rvs)
theorem ev_dict {trs : List (TE × TE)} {ps : List (Key × EX)} (hp : EvPr K C trs ps) : EvE K C (tDisp trs) (eDict ps) := fun N H σ env e s Q h p hpn => by
  have hNp : N p = none := by
    cases hq : N p with
    | none => rfl
    | some o => have := e p o hq; rw [hpn] at this; cases this
  have e1 : Sub N (upd H p (.dK [])) := fun a o q => by rw [upd_ne (ne_of_none q hNp)]; exact e a o q
  have g0 : Gr N H N (upd H p (.dK [])) := ⟨fun a o q => by rw [upd_ne (ne_of_none q hpn)]; exact q, fun a o q => q, e1, fun a q => .inl q⟩
  unfold eDict at h
  cases hd : DPairs ps env with
  | bad => rw [hd] at h; exact h.elim
  | exc q =>
    rw [hd] at h
    exact hp N _ σ env e1 s _ (by rw [hd]; exact ExcP.step g0 h)
  | ok xs =>
    rw [hd] at h
    refine hp N _ σ env e1 s _ ?_
    rw [hd]
    intro N2 H2 g2 vs rvs
    have h : PostR C σ N H (if xs.length ≤ 15 then .ok (.dct (mergeV [] xs)) else .bad) (fun x N' H' => ∀ v, RV K N' v x → Q v H') := h
    split at h
    · rename_i hl
      have hH2 : H2 p = some (.dK []) := g2.hh p _ upd_same
      have hN2 : N2 p = none := by
        cases hq : N2 p with
        | none => rfl
        | some o =>
          rcases g2.nw p (by rw [hq]; simp) with h3 | h3
          · exact absurd hNp h3
          · rw [upd_same] at h3; cases h3
      refine ⟨hH2, vs, rfl, by rw [rvs.length]; exact hl, ?_⟩
      have e3 : Sub N2 (upd N2 p (.dK (mergeK [] vs))) := fun a o q => by rw [upd_ne (ne_of_none q hN2)]; exact q
      refine h (upd N2 p (.dK (mergeK [] vs))) _ ⟨fun a o q => ?_, fun a o q => e3 a o (g2.nn a o q), fun a o q => ?_, fun a q => ?_⟩ _ (.dct upd_same (RKs.merge (RKs.mono e3 _ rvs) .nil))
      · rw [upd_ne (ne_of_none q hpn)]
        exact g2.hh a o (by rw [upd_ne (ne_of_none q hpn)]; exact q)
      · by_cases hap : a = p
        · subst hap; rw [upd_same] at q ⊢; exact q
        · rw [upd_ne hap] at q ⊢
          exact g2.nh a o q
      · by_cases hap : a = p
        · subst hap; exact .inr hpn
        · rw [upd_ne hap] at q
          rcases g2.nw a q with h3 | h3
          · exact .inl h3
          · rw [upd_ne hap] at h3; exact .inr h3
    · exact h.elim
end
end Vm

/-! The value machine over HandS: statements. -/
namespace Vm
open PySem L2 PyProof.Rows

/-- one slot, with the addresses of its own -/
inductive SlR1 (K : PySem.W.Frag) (M H : Hp) : Option V → Slot → List Addr → Prop
  | un (s : Option V) : SlR1 K M H s .un []
  | sh {v : V} {x : Val} : RV K M v x → SlR1 K M H (some v) (.sh x) []
  | oL {a : Addr} {vs : List V} {xs : List Val} : H a = some (.lst vs) → RVs K M vs xs → SlR1 K M H (some (.ref a)) (.oL xs) [a]
  | oD {a : Addr} {vs : List (L2.Key × V)} {xs : List (Key × Val)} : H a = some (.dK vs) → RKs K M vs xs → SlR1 K M H (some (.ref a)) (.oD xs) [a]
inductive SO (K : PySem.W.Frag) (M H : Hp) : L2.St → Env → List Addr → Prop
  | nil : SO K M H [] [] []
  | cons {s : Option V} {e : Slot} {f fs : List Addr} {σ : L2.St} {env : Env} : SlR1 K M H s e f → SO K M H σ env fs → SO K M H (s :: σ) (e :: env) (f ++ fs)
section
variable {K : PySem.W.Frag} {M H M' H' : Hp} {σ : L2.St} {env : Env} {fs : List Addr}
theorem SlR1.mono {s : Option V} {e : Slot} {f : List Addr} (em : Sub M M') (eh : ∀ a ∈ f, H' a = H a) (h : SlR1 K M H s e f) : SlR1 K M' H' s e f := by
  cases h with
  | un => exact .un _
  | sh r => exact .sh (r.mono em)
  | oL h r => exact .oL (by rw [eh _ List.mem_cons_self]; exact h) (r.mono em)
  | oD h r => exact .oD (by rw [eh _ List.mem_cons_self]; exact h) (r.mono em)
theorem SO.mono (em : Sub M M') (eh : ∀ a ∈ fs, H' a = H a) (h : SO K M H σ env fs) : SO K M' H' σ env fs := by
  induction h with
  | nil => exact .nil
  | cons r _ ih => exact .cons (r.mono em fun a ha => eh a (List.mem_append_left _ ha)) (ih fun a ha => eh a (List.mem_append_right _ ha))
theorem SO.known (h : SO K M H σ env fs) : ∀ a ∈ fs, H a ≠ none := by
  induction h with
  | nil => intro a ha; cases ha
  | cons r _ ih =>
    intro a ha
    rcases List.mem_append.mp ha with ha | ha
    · cases r with
      | un => cases ha
      | sh => cases ha
      | oL h _ => rw [List.mem_singleton] at ha; subst ha; rw [h]; simp
      | oD h _ => rw [List.mem_singleton] at ha; subst ha; rw [h]; simp
    · exact ih a ha
theorem SO.len (h : SO K M H σ env fs) : σ.length = env.length := by
  induction h with
  | nil => rfl
  | cons _ _ ih => exact congrArg (· + 1) ih
/-- the i-th slot apart -/
theorem SO.at (h : SO K M H σ env fs) : ∀ {i : Nat} {e : Slot}, env[i]? = some e → ∃ s f1 f f2, σ[i]? = some s ∧ fs = f1 ++ (f ++ f2) ∧ SlR1 K M H s e f ∧
    ∀ {M' H' : Hp} {s' : Option V} {e' : Slot} {f' : List Addr}, Sub M M' → (∀ a ∈ f1 ++ f2, H' a = H a) → SlR1 K M' H' s' e' f' → SO K M' H' (σ.set i s') (env.set i e') (f1 ++ (f' ++ f2)) := by
  induction h with
  | nil => intro i e h; simp at h
  | @cons s e f fs σ env r t ih =>
    intro i e0 h
    cases i with
    | zero =>
      simp at h
      subst h
      refine ⟨s, [], f, fs, rfl, rfl, r, @fun M' H' s' e' f' em eh r' => ?_⟩
      show SO K M' H' (s' :: σ) (e' :: env) (f' ++ fs)
      exact SO.cons r' (t.mono em fun a ha => eh a (by simpa using ha))
    | succ i =>
      obtain ⟨s0, f1, g, f2, h1, h2, h3, h4⟩ := ih (i := i) (e := e0) (by simpa using h)
      refine ⟨s0, f ++ f1, g, f2, by simpa using h1, by rw [h2, List.append_assoc], h3, fun em eh r' => ?_⟩
      have := h4 em (fun a ha => eh a (by simp only [List.mem_append] at ha ⊢; rcases ha with ha | ha <;> simp [ha])) r'
      rw [List.append_assoc]
      exact .cons (r.mono em fun a ha => eh a (by simp [ha])) this
end

structure Bs where
  m : Hp
  h : Hp
  l : Hp
structure SR (K : PySem.W.Frag) (B : Bs) (M H : Hp) (σ : L2.St) (env : Env) (fs : List Addr) : Prop where
  g : Gr B.m B.h M H
  lo : Sub B.l M
  fr : ∀ a ∈ fs, M a = none ∧ B.h a = none
  nd : fs.Nodup
  sl : SO K M H σ env fs
theorem SR.at_low {K : PySem.W.Frag} {B : Bs} {M M1 H : Hp} {σ : L2.St} {env : Env} {fs : List Addr} (S : SR K B M H σ env fs) (e : Sub M1 M) : SR K { B with l := M1 } M H σ env fs := ⟨S.g, e, S.fr, S.nd, S.sl⟩
theorem SR.of_low {K : PySem.W.Frag} {B : Bs} {M M1 H : Hp} {σ : L2.St} {env : Env} {fs : List Addr} (e : Sub B.l M1) (S : SR K { B with l := M1 } M H σ env fs) : SR K B M H σ env fs := ⟨S.g, e.trans S.lo, S.fr, S.nd, S.sl⟩
/-- all that stands, the slots' own lists too -/
def full (M H : Hp) (fs : List Addr) : Hp := fun a => if a ∈ fs then H a else M a
/-- what stays, where the slots' own lists are left out -/
def part (N : Hp) (fs : List Addr) : Hp := fun a => if a ∈ fs then none else N a
section
variable {K : PySem.W.Frag} {B : Bs} {M H M' H' N' : Hp} {σ : L2.St} {env : Env} {fs : List Addr}
theorem full_sub (S : SR K B M H σ env fs) : Sub (full M H fs) H := fun a o q => by
  unfold full at q
  split at q
  · exact q
  · exact S.g.nh a o q
theorem sub_full (S : SR K B M H σ env fs) : Sub M (full M H fs) := fun a o q => by
  unfold full
  rw [if_neg fun h => by rw [(S.fr a h).1] at q; cases q]
  exact q
theorem full_gr (S : SR K B M H σ env fs) : Gr B.m B.h (full M H fs) H := by
  refine ⟨S.g.hh, fun a o q => sub_full S a o (S.g.nn a o q), full_sub S, fun a q => ?_⟩
  unfold full at q
  split at q
  · rename_i h; exact .inr (S.fr a h).2
  · exact S.g.nw a q
theorem SO.sv {N : Hp} (e : Sub M N) (en : ∀ a ∈ fs, N a = H a) (h : SO K M H σ env fs) : SV K N σ env := by
  induction h with
  | nil => exact .nil
  | @cons s e' f fs σ env r _ ih =>
    have ih' := ih fun a ha => en a (List.mem_append_right _ ha)
    cases r with
    | un => exact .un ih'
    | sh r => exact .sh (r.mono e) ih'
    | oL h r => exact .oL (.lst (SqL.of (by rw [en _ (by simp)]; exact h)) (r.mono e)) ih'
    | oD h r => exact .oD (.dct (show N _ = _ by rw [en _ (by simp)]; exact h) (r.mono e)) ih'
theorem SR.sv (S : SR K B M H σ env fs) : SV K (full M H fs) σ env := S.sl.sv (sub_full S) fun a ha => if_pos ha
theorem SO.hid (h : SO K M H σ env fs) : SV K M σ (hide env) := by
  induction h with
  | nil => exact .nil
  | cons r _ ih =>
    cases r with
    | un => exact .un ih
    | sh r => exact .sh r ih
    | oL _ _ => exact .un ih
    | oD _ _ => exact .un ih
/-- behind an expression over all that stands -/
theorem SR.behind (S : SR K B M H σ env fs) (g : Gr (full M H fs) H N' H') : SR K B (part N' fs) H' σ env fs := by
  have em : Sub M (part N' fs) := fun a o q => by
    unfold part
    rw [if_neg fun h => by rw [(S.fr a h).1] at q; cases q]
    exact g.nn a o (sub_full S a o q)
  refine ⟨⟨S.g.hh.trans g.hh, fun a o q => em a o (S.g.nn a o q), fun a o q => ?_, fun a q => ?_⟩, S.lo.trans em, fun a ha => ⟨if_pos ha, (S.fr a ha).2⟩, S.nd, S.sl.mono em fun a ha => ?_⟩
  · unfold part at q
    split at q
    · cases q
    · exact g.nh a o q
  · unfold part at q
    split at q
    · exact absurd rfl q
    · rename_i ha
      rcases g.nw a q with h | h
      · unfold full at h
        rw [if_neg ha] at h
        exact S.g.nw a h
      · exact .inr (S.g.hh.free h)
  · cases hq : H a with
    | none => exact absurd hq (S.sl.known a ha)
    | some o => exact g.hh a o hq
/-- behind an expression over what stays -/
theorem SR.behindH (S : SR K B M H σ env fs) (g : Gr M H M' H') : SR K B M' H' σ env fs := by
  refine ⟨S.g.trans g, S.lo.trans g.nn, fun a ha => ⟨?_, (S.fr a ha).2⟩, S.nd, S.sl.mono g.nn fun a ha => ?_⟩
  · cases hq : M' a with
    | none => rfl
    | some o =>
      rcases g.nw a (by rw [hq]; simp) with h | h
      · exact absurd (S.fr a ha).1 h
      · exact absurd h (S.sl.known a ha)
  · cases hq : H a with
    | none => exact absurd hq (S.sl.known a ha)
    | some o => exact g.hh a o hq
mutual
theorem RV.strip {N : Hp} (hn : ∀ a ∈ fs, ∃ vs, N a = some (.lst vs) ∨ ∃ kvs, N a = some (.dK kvs)) : ∀ (x : Val) {v : V}, RV K N v x → x.noLst = true → RV K (part N fs) v x
  | .non, _, .non, _ => .non
  | .bl _, _, .bl b, _ => .bl b
  | .int _, _, .int i, _ => .int i
  | .str _, _, .str x, _ => .str x
  | .tup xs, _, .tup (a := a) (vs := vs) h r, e => by
    have hx := RVs.strip hn xs r e
    refine .tup ?_ hx
    rcases h with (h | ⟨o, h⟩) | h
    · refine .inl (.inl ?_)
      unfold part
      rw [if_neg fun ha => by
        obtain ⟨ws, q | ⟨kvs, q⟩⟩ := hn a ha
        · rw [h] at q; cases q
        · rw [h] at q; cases q]
      exact h
    · refine .inl (.inr ⟨o, ?_⟩)
      unfold part
      rw [if_neg fun ha => by
        obtain ⟨ws, q | ⟨kvs, q⟩⟩ := hn a ha
        · rw [h] at q; cases q
        · rw [h] at q; cases q]
      exact h
    · exact .inr h
  | .lst _, _, _, e => by simp [Val.noLst] at e
  | .dct _, _, _, e => by simp [Val.noLst] at e
theorem RVs.strip {N : Hp} (hn : ∀ a ∈ fs, ∃ vs, N a = some (.lst vs) ∨ ∃ kvs, N a = some (.dK kvs)) : ∀ (xs : List Val) {vs : List V}, RVs K N vs xs → Val.noLsts xs = true → RVs K (part N fs) vs xs
  | [], _, .nil, _ => .nil
  | x :: xs, _, .cons h r, e => by
    simp only [Val.noLsts, Bool.and_eq_true] at e
    exact .cons (RV.strip hn x h e.1) (RVs.strip hn xs r e.2)
end
theorem SO.kinds (h : SO K M H σ env fs) : ∀ a ∈ fs, ∃ vs, H a = some (.lst vs) ∨ ∃ kvs, H a = some (.dK kvs) := by
  induction h with
  | nil => intro a ha; cases ha
  | cons r _ ih =>
    intro a ha
    rcases List.mem_append.mp ha with ha | ha
    · cases r with
      | un => cases ha
      | sh => cases ha
      | oL h _ => rw [List.mem_singleton] at ha; subst ha; exact ⟨_, .inl h⟩
      | oD h _ => rw [List.mem_singleton] at ha; subst ha; exact ⟨[], .inr ⟨_, h⟩⟩
    · exact ih a ha
theorem SR.kindsN (S : SR K B M H σ env fs) (g : Gr (full M H fs) H N' H') : ∀ a ∈ fs, ∃ vs, N' a = some (.lst vs) ∨ ∃ kvs, N' a = some (.dK kvs) := fun a ha => by
  obtain ⟨vs, h | ⟨kvs, h⟩⟩ := S.sl.kinds a ha
  · exact ⟨vs, .inl (g.nn a _ (by unfold full; rw [if_pos ha]; exact h))⟩
  · exact ⟨vs, .inr ⟨kvs, g.nn a _ (by unfold full; rw [if_pos ha]; exact h)⟩⟩
theorem nodup_mid {f1 f f' f2 : List Addr} (h : (f1 ++ (f ++ f2)).Nodup) (h1 : f'.Nodup) (h2 : ∀ a ∈ f', a ∉ f1 ++ f2) : (f1 ++ (f' ++ f2)).Nodup := by
  rw [List.nodup_append] at h ⊢
  obtain ⟨a, b, c⟩ := h
  rw [List.nodup_append] at b
  refine ⟨a, List.nodup_append.mpr ⟨h1, b.2.1, fun x hx y hy z => ?_⟩, fun x hx y hy z => ?_⟩
  · subst z; exact h2 x hx (List.mem_append_right _ hy)
  · subst z
    rcases List.mem_append.mp hy with hy | hy
    · exact h2 x hy (List.mem_append_left _ hx)
    · exact c x hx x (List.mem_append_right _ hy) rfl
/-- a slot gets a value that stays (or nothing) -/
theorem SR.put (S : SR K B M H σ env fs) {i : Nat} (hi : i < env.length) {s : Option V} {e : Slot} (r : SlR1 K M H s e []) : ∃ fs', SR K B M H (σ.set i s) (env.set i e) fs' := by
  obtain ⟨s0, f1, f, f2, h1, h2, h3, h4⟩ := S.sl.at (List.getElem?_eq_getElem hi)
  refine ⟨f1 ++ ([] ++ f2), S.g, S.lo, fun a ha => S.fr a ?_, ?_, h4 (Same.refl _) (fun _ _ => rfl) r⟩
  · rw [h2]
    simp only [List.nil_append, List.mem_append] at ha ⊢
    rcases ha with ha | ha <;> simp [ha]
  · exact nodup_mid (by rw [← h2]; exact S.nd) .nil fun a ha => by cases ha
theorem SR.putV (S : SR K B M H σ env fs) {i : Nat} {v : V} {x : Val} (r : RV K M v x) : ∃ fs', SR K B M H (σ.set i (some v)) (env.set i (.sh x)) fs' := by
  by_cases hi : i < env.length
  · exact S.put hi (.sh r)
  · rw [List.set_eq_of_length_le (by rw [S.sl.len]; omega), List.set_eq_of_length_le (by omega)]
    exact ⟨fs, S⟩
theorem SR.forget (S : SR K B M H σ env fs) {i : Nat} : ∃ fs', SR K B M H σ (env.set i .un) fs' := by
  by_cases hi : i < env.length
  · have hl : i < σ.length := by rw [S.sl.len]; exact hi
    obtain ⟨fs', S'⟩ := S.put hi (.un σ[i])
    rw [List.set_getElem_self] at S'
    exact ⟨fs', S'⟩
  · rw [List.set_eq_of_length_le (by omega)]
    exact ⟨fs, S⟩
theorem SR.forgets : ∀ {is : List Nat} {fs : List Addr}, SR K B M H σ env fs → ∃ fs', SR K B M H σ (wipeE env is) fs'
  | [], fs, S => ⟨fs, S⟩
  | i :: is, fs, S => by
    obtain ⟨fs', S'⟩ := SR.forgets (is := is) S
    exact S'.forget
theorem SR.sets : ∀ {l : List (Nat × V × Val)} {σ : L2.St} {env : Env} {fs : List Addr}, SR K B M H σ env fs → (∀ t ∈ l, RV K M t.2.1 t.2.2) → ∃ fs', SR K B M H (setsS σ l) (setsE env l) fs'
  | [], _, _, fs, S, _ => ⟨fs, S⟩
  | t :: l, σ, env, fs, S, h => by
    obtain ⟨fs', S'⟩ := S.putV (i := t.1) (h t List.mem_cons_self)
    exact SR.sets (l := l) S' fun t' ht => h t' (List.mem_cons_of_mem _ ht)
/-- a slot gets a new list of its own -/
theorem SR.own (S : SR K B M H σ env fs) {i : Nat} (hi : i < env.length) {p : Addr} {vs : List V} {xs : List Val} (hp : H p = none) (r : RVs K M vs xs) : ∃ fs', SR K B M (upd H p (.lst vs)) (σ.set i (some (.ref p))) (env.set i (.oL xs)) fs' := by
  obtain ⟨s0, f1, f, f2, h1, h2, h3, h4⟩ := S.sl.at (List.getElem?_eq_getElem hi)
  have hne : ∀ a, H a ≠ none → a ≠ p := fun a h z => by subst z; exact h hp
  have hM : M p = none := by
    cases hq : M p with
    | none => rfl
    | some o => have := S.g.nh p o hq; rw [hp] at this; cases this
  have hB : B.h p = none := S.g.hh.free hp
  refine ⟨f1 ++ ([p] ++ f2), ⟨S.g.hh.trans fun a o q => by rw [upd_ne (hne a (by rw [q]; simp))]; exact q, S.g.nn, fun a o q => ?_, S.g.nw⟩, S.lo, fun a ha => ?_, ?_, h4 (Same.refl _) (fun a ha => upd_ne (hne a (S.sl.known a ?_))) (.oL upd_same r)⟩
  · have := S.g.nh a o q
    rw [upd_ne (hne a (by rw [this]; simp))]
    exact this
  · simp only [List.mem_append, List.mem_singleton] at ha
    rcases ha with ha | ha | ha
    · exact S.fr a (by rw [h2]; simp [ha])
    · subst ha; exact ⟨hM, hB⟩
    · exact S.fr a (by rw [h2]; simp [ha])
  · refine nodup_mid (by rw [← h2]; exact S.nd) (List.nodup_cons.mpr ⟨by simp, .nil⟩) fun a ha hb => ?_
    rw [List.mem_singleton] at ha
    subst ha
    exact S.sl.known a (by rw [h2]; simp only [List.mem_append] at hb ⊢; rcases hb with h | h <;> simp [h]) hp
  · rw [h2]
    simp only [List.mem_append] at ha ⊢
    rcases ha with h | h <;> simp [h]
/-- the slot's own list is written -/
theorem SR.write (S : SR K B M H σ env fs) {i : Nat} {xs : List Val} (hi : env[i]? = some (.oL xs)) : ∃ a vs, σ[i]? = some (some (.ref a)) ∧ H a = some (.lst vs) ∧ RVs K M vs xs ∧
    ∀ {ws : List V} {ys : List Val}, RVs K M ws ys → SR K B M (upd H a (.lst ws)) σ (env.set i (.oL ys)) fs := by
  obtain ⟨s0, f1, f, f2, h1, h2, h3, h4⟩ := S.sl.at hi
  cases h3 with
  | @oL a vs _ ha r =>
    refine ⟨a, vs, h1, ha, r, fun {ws ys} r' => ?_⟩
    have hfs : a ∈ fs := by rw [h2]; simp
    have hne : ∀ b ∈ f1 ++ f2, b ≠ a := fun b hb z => by
      subst z
      have hn := S.nd
      rw [h2, List.nodup_append] at hn
      obtain ⟨_, n2, n3⟩ := hn
      rcases List.mem_append.mp hb with hb | hb
      · exact n3 b hb b (by simp) rfl
      · rw [List.nodup_append] at n2
        exact n2.2.2 b (by simp) b hb rfl
    have hsl := h4 (M' := M) (H' := upd H a (.lst ws)) (Same.refl _) (fun b hb => upd_ne (hne b hb)) (.oL upd_same r')
    have hset : σ.set i (some (.ref a)) = σ := by
      obtain ⟨hl, he⟩ := List.getElem?_eq_some_iff.mp h1
      rw [← he, List.set_getElem_self]
    rw [hset] at hsl
    have hB := (S.fr a hfs).2
    have hM := (S.fr a hfs).1
    refine ⟨⟨fun b o q => ?_, S.g.nn, fun b o q => ?_, S.g.nw⟩, S.lo, S.fr, S.nd, by rw [h2]; exact hsl⟩
    · rw [upd_ne (ne_of_none q hB)]
      exact S.g.hh b o q
    · rw [upd_ne (ne_of_none q hM)]
      exact S.g.nh b o q
/-- the slot's own list stays from here on -/
theorem SR.freeze (S : SR K B M H σ env fs) {i : Nat} {xs : List Val} (hi : env[i]? = some (.oL xs)) : ∃ M' fs', SR K B M' H σ (env.set i (.sh (.lst xs))) fs' := by
  obtain ⟨s0, f1, f, f2, h1, h2, h3, h4⟩ := S.sl.at hi
  cases h3 with
  | @oL a vs _ ha r =>
    have hfs : a ∈ fs := by rw [h2]; simp
    have hne : ∀ b ∈ f1 ++ f2, b ≠ a := fun b hb z => by
      subst z
      have hn := S.nd
      rw [h2, List.nodup_append] at hn
      obtain ⟨_, n2, n3⟩ := hn
      rcases List.mem_append.mp hb with hb | hb
      · exact n3 b hb b (by simp) rfl
      · rw [List.nodup_append] at n2
        exact n2.2.2 b (by simp) b hb rfl
    have hB := (S.fr a hfs).2
    have hM := (S.fr a hfs).1
    have em : Sub M (upd M a (.lst vs)) := fun b o q => by rw [upd_ne (ne_of_none q hM)]; exact q
    have hsl := h4 (M' := upd M a (.lst vs)) (H' := H) em (fun b hb => rfl) (.sh (v := .ref a) (.lst (SqL.of upd_same) (r.mono em)))
    have hset : σ.set i (some (.ref a)) = σ := by
      obtain ⟨hl, he⟩ := List.getElem?_eq_some_iff.mp h1
      rw [← he, List.set_getElem_self]
    rw [hset] at hsl
    refine ⟨_, _, ⟨S.g.hh, fun b o q => em b o (S.g.nn b o q), fun b o q => ?_, fun b q => ?_⟩, S.lo.trans em, fun b hb => ?_, ?_, hsl⟩
    · by_cases hb : b = a
      · subst hb; rw [upd_same] at q; rw [← q]; exact ha
      · rw [upd_ne hb] at q; exact S.g.nh b o q
    · by_cases hb : b = a
      · subst hb; exact .inr hB
      · rw [upd_ne hb] at q; exact S.g.nw b q
    · have hb' : b ∈ f1 ++ f2 := by simpa using hb
      have hbf : b ∈ fs := by
        rw [h2]; simp only [List.mem_append] at hb' ⊢; rcases hb' with h | h <;> simp [h]
      exact ⟨by rw [upd_ne (hne b hb')]; exact (S.fr b hbf).1, (S.fr b hbf).2⟩
    · exact nodup_mid (by rw [← h2]; exact S.nd) .nil fun a ha => by cases ha
end

/-! ### what follows a statement -/
def PostF (K : PySem.W.Frag) (C : Cn) (B : Bs) (D : Ends) (r : Flow) : Prop := match r with
  | .next e => ∀ M H σ fs, SR K B M H σ e fs → D.nx σ H
  | .brk e => ∀ M H σ fs, SR K B M H σ e fs → D.bk σ H
  | .cont e => ∀ M H σ fs, SR K B M H σ e fs → D.ct σ H
  | .ret x => ∀ N H v, Gr B.m B.h N H → RV K N v x → D.rt v H
  | .exc q e => ∃ w, C.W = some w ∧ ∀ cls d M H σ fs, SR K B M H σ e fs → C.XR H cls d q → w cls d σ H
  | .bad => False
def EvS (K : PySem.W.Frag) (C : Cn) (t : TS) (m : ST) : Prop := ∀ B M H σ env fs, SR K B M H σ env fs → ∀ D, PostF K C B D (m env) → t D σ H
structure SSt (X : Cx) (C : Cn) (st : Stmt) (t : TS) (m : ST) : Prop where
  ps : PS X st t
  ev : EvS X.K C t m
structure SSs (X : Cx) (C : Cn) (st : List Stmt) (t : TS) (m : ST) : Prop where
  ps : PSs X st t
  ev : EvS X.K C t m
section
variable {K : PySem.W.Frag} {C : Cn} {B : Bs} {M H : Hp} {σ : L2.St} {env : Env} {fs : List Addr} {D : Ends}
/-- an expression at a statement, over all that stands -/
theorem post_full {α : Type} (S : SR K B M H σ env fs) {r : Res α} {f : α → Flow} {P : α → Hp → Hp → Prop} (h : PostF K C B D (r.flow env f))
    (k : ∀ x N' H', r = .ok x → Gr (full M H fs) H N' H' → SR K B (part N' fs) H' σ env fs → PostF K C B D (f x) → P x N' H') : PostR C σ (full M H fs) H r P := by
  cases r with
  | ok x => exact fun N' H' g => k x N' H' rfl g (S.behind g) h
  | exc q =>
    obtain ⟨w, h1, h2⟩ := h
    exact ⟨w, h1, fun cls d N' H' g hx => h2 cls d _ H' σ fs (S.behind g) hx⟩
  | bad => exact h
theorem post_hid {α : Type} (S : SR K B M H σ env fs) {r : Res α} {f : α → Flow} {P : α → Hp → Hp → Prop} (h : PostF K C B D (r.flow env f))
    (k : ∀ x M' H', r = .ok x → Gr M H M' H' → SR K B M' H' σ env fs → PostF K C B D (f x) → P x M' H') : PostR C σ M H r P := by
  cases r with
  | ok x => exact fun M' H' g => k x M' H' rfl g (S.behindH g) h
  | exc q =>
    obtain ⟨w, h1, h2⟩ := h
    exact ⟨w, h1, fun cls d N' H' g hx => h2 cls d _ H' σ fs (S.behindH g) hx⟩
  | bad => exact h
theorem PostF.ite {c : Prop} [Decidable c] {a : Flow} (h : PostF K C B D (if c then a else .bad)) : c ∧ PostF K C B D a := by
  split at h
  · rename_i hc; exact ⟨hc, h⟩
  · exact h.elim
theorem PostF.bind {r : Flow} {f : Env → Flow} (h : PostF K C B D (r.bind f)) (k : ∀ e, PostF K C B D (f e) → ∀ M H σ fs, SR K B M H σ e fs → D.nx σ H) : PostF K C B D r := by
  cases r with
  | next e => exact k e h
  | _ => exact h
theorem es_next : EvS K C tNext sNext := fun B M H σ env fs S D h => h M H σ fs S
theorem es_break : EvS K C tBreak sBreak := fun B M H σ env fs S D h => h M H σ fs S
theorem es_cont : EvS K C tCont sCont := fun B M H σ env fs S D h => h M H σ fs S
theorem es_seq {t u : TS} {m n : ST} (h1 : EvS K C t m) (h2 : EvS K C u n) : EvS K C (tSeq t u) (sSeq m n) := fun B M H σ env fs S D h => by
  refine h1 B M H σ env fs S { D with nx := u D } ?_
  cases hm : m env with
  | next e =>
    intro M' H' σ' fs' S'
    refine h2 B M' H' σ' e fs' S' D ?_
    have : PostF K C B D ((m env).bind n) := h
    rw [hm] at this
    exact this
  | brk e => have : PostF K C B D ((m env).bind n) := h; rw [hm] at this; exact this
  | cont e => have : PostF K C B D ((m env).bind n) := h; rw [hm] at this; exact this
  | ret e => have : PostF K C B D ((m env).bind n) := h; rw [hm] at this; exact this
  | exc q e => have : PostF K C B D ((m env).bind n) := h; rw [hm] at this; exact this
  | bad => have : PostF K C B D ((m env).bind n) := h; rw [hm] at this; exact this
/-- ahead of a statement: the slot's list stays from here on -/
theorem es_freeze {t : TS} {m : ST} {i : Nat} (h1 : EvS K C t m) : EvS K C t (sSeq (sFreeze i) m) := fun B M H σ env fs S D h => by
  have h : PostF K C B D ((sFreeze i env).bind m) := h
  unfold sFreeze at h
  split at h
  · rename_i xs hx
    obtain ⟨M', fs', S'⟩ := S.freeze hx
    exact h1 B M' H σ _ fs' S' D h
  · exact h.elim
theorem es_forget {t : TS} {m : ST} {is : List Nat} (h1 : EvS K C t m) : EvS K C t (sSeq (sForget is) m) := fun B M H σ env fs S D h => by
  obtain ⟨fs', S'⟩ := SR.forgets (is := is) S
  exact h1 B M H σ _ fs' S' D h
/-- behind a statement -/
theorem es_then {t : TS} {m : ST} {is : List Nat} (h1 : EvS K C t m) : EvS K C t (sSeq m (sForget is)) := fun B M H σ env fs S D h => by
  refine h1 B M H σ env fs S D (PostF.bind h fun e he M' H' σ' fs' S' => ?_)
  obtain ⟨fs2, S2⟩ := SR.forgets (is := is) S'
  exact he M' H' σ' fs2 S2
theorem es_set {te : TE} {m : EX} {i : Nat} (ha : EvE K C te m) : EvS K C (tAsg te (gName i)) (sSet i m) := fun B M H σ env fs S D h => by
  refine ha M H σ (hide env) S.g.nh S.sl.hid _ (post_hid S h fun x M' H' _ g S' hx v rv => ?_)
  obtain ⟨hi, hx⟩ := PostF.ite hx
  obtain ⟨fs', S2⟩ := S'.putV (i := i) rv
  exact hx M' H' _ fs' S2
theorem es_setN {te : TE} {m : EX} {i : Nat} (ha : EvE K C te m) : EvS K C (tAsg te (gName i)) (sSetN i m) := fun B M H σ env fs S D h => by
  refine ha _ H σ env (full_sub S) S.sv _ (post_full S h fun x N' H' _ g S' hx v rv => ?_)
  obtain ⟨⟨hi, hn⟩, hx⟩ := PostF.ite hx
  obtain ⟨fs', S2⟩ := S'.putV (i := i) (RV.strip (S.kindsN g) x rv hn)
  exact hx _ H' _ fs' S2
theorem es_put {te : TE} {m : EX} {g : TG} {put : Put} {is : List Nat} (hp : EvP K g put is) (hnx : ∀ x env, NX (put x env)) (ha : EvE K C te m) : EvS K C (tAsg te g) (sPut put m) := fun B M H σ env fs S D h => by
  refine ha M H σ (hide env) S.g.nh S.sl.hid _ (post_hid S h fun x M' H' _ g S' hx v rv => ?_)
  cases hq : put x env with
  | bad => rw [hq] at hx; exact hx.elim
  | exc q => exact absurd hq (hnx x env q)
  | ok e =>
    rw [hq] at hx
    refine hp M' H' σ env v x e S'.g.nh rv hq _ fun l hl he => ?_
    obtain ⟨fs', S2⟩ := S'.sets (l := l) fun t ht => (hl t ht).2
    rw [← he] at S2
    exact hx M' H' _ fs' S2
theorem es_own {te : TE} {m : EX} {i : Nat} (ha : EvF K C te m) : EvS K C (tAsg te (gName i)) (sOwn i m) := fun B M H σ env fs S D h => by
  refine ha M H σ (hide env) S.g.nh S.sl.hid _ (post_hid S h fun x M' H' _ g S' hx => ?_)
  cases x with
  | lst xs =>
    obtain ⟨hi, hx⟩ := PostF.ite hx
    refine ⟨xs, rfl, fun p vs hp rvs => ?_⟩
    obtain ⟨fs', S2⟩ := S'.own hi hp rvs
    exact hx M' _ _ fs' S2
  | _ => exact hx.elim
theorem es_ownN {te : TE} {m : EX} {i : Nat} (ha : EvF K C te m) : EvS K C (tAsg te (gName i)) (sOwnN i m) := fun B M H σ env fs S D h => by
  refine ha _ H σ env (full_sub S) S.sv _ (post_full S h fun x N' H' _ g S' hx => ?_)
  cases x with
  | lst xs =>
    obtain ⟨⟨hi, hn⟩, hx⟩ := PostF.ite hx
    refine ⟨xs, rfl, fun p vs hp rvs => ?_⟩
    obtain ⟨fs', S2⟩ := S'.own hi hp (RVs.strip (S.kindsN g) xs rvs hn)
    exact hx _ _ _ fs' S2
  | _ => exact hx.elim
theorem es_drop {te : TE} {m : EX} (ha : EvE K C te m) : EvS K C (tDrop te) (sDrop m) := fun B M H σ env fs S D h => by
  refine ha _ H σ env (full_sub S) S.sv _ (post_full S h fun x N' H' _ g S' hx v rv => ?_)
  exact hx _ H' σ fs S'
theorem es_append {te : TE} {m : EX} {i : Nat} (ha : EvE K C te m) : EvS K C (tDrop (tBM K "list" rAppend (tVar i) (tCons te tNil))) (sAppend i m) := fun B M H σ env fs S D h => by
  unfold sAppend at h
  split at h
  · rename_i xs hx
    obtain ⟨a, vs, h1, h2, h3, _⟩ := S.write hx
    refine ⟨.ref a, h1, .inl ⟨rfl, vs, SqL.of h2⟩, ?_⟩
    refine ha M H σ (hide env) S.g.nh S.sl.hid _ (post_hid S h fun x M' H' _ g S' hq v rv => ?_)
    obtain ⟨hl, hq⟩ := PostF.ite hq
    obtain ⟨a', vs', k1, k2, k3, k4⟩ := S'.write hx
    rw [h1] at k1
    cases k1
    refine ⟨a, vs', v, rfl, rfl, k2, by rw [line_eq, k3.length]; exact hl, ?_⟩
    exact hq M' _ σ fs (k4 (k3.append (.cons rv .nil)))
  · exact h.elim
theorem es_appendN {te : TE} {m : EX} {i : Nat} (ha : EvE K C te m) : EvS K C (tDrop (tBM K "list" rAppend (tVar i) (tCons te tNil))) (sAppendN i m) := fun B M H σ env fs S D h => by
  unfold sAppendN at h
  split at h
  · rename_i xs hx
    obtain ⟨a, vs, h1, h2, h3, _⟩ := S.write hx
    refine ⟨.ref a, h1, .inl ⟨rfl, vs, SqL.of h2⟩, ?_⟩
    refine ha _ H σ env (full_sub S) S.sv _ (post_full S h fun x N' H' _ g S' hq v rv => ?_)
    obtain ⟨⟨hl, hn⟩, hq⟩ := PostF.ite hq
    obtain ⟨a', vs', k1, k2, k3, k4⟩ := S'.write hx
    rw [h1] at k1
    cases k1
    refine ⟨a, vs', v, rfl, rfl, k2, by rw [line_eq, k3.length]; exact hl, ?_⟩
    exact hq _ _ σ fs (k4 (k3.append (.cons (RV.strip (S.kindsN g) x rv hn) .nil)))
  · exact h.elim
theorem RVs.set {N : Hp} {v : V} {x : Val} (h : RV K N v x) : ∀ {vs : List V} {xs : List Val} {j : Nat}, RVs K N vs xs → RVs K N (vs.set j v) (xs.set j x)
  | _, _, _, .nil => .nil
  | _, _, 0, .cons _ r => .cons h r
  | _, _, _ + 1, .cons h1 r => .cons h1 (RVs.set h r)
theorem ixN_eq (n : Nat) (k : Int) : ixN n k = ixNat n k := rfl
theorem item_put {ti : TE} {b : EX} {i : Nat} {v : V} {x : Val} {xs : List Val} (hx : env[i]? = some (.oL xs)) (hb : EvE K C ti b) (S : SR K B M H σ env fs) (r : RV K M v x) (h : PostF K C B D ((b env).flow env fun k => itemPut i env x k)) : gSub (tVar i) ti rSetL v σ H D.nx := by
  obtain ⟨a, vs, h1, h2, h3, _⟩ := S.write hx
  refine ⟨.ref a, h1, ?_⟩
  refine hb _ H σ env (full_sub S) S.sv _ (post_full S h fun k N' H' _ g S' hk w rw' => ?_)
  unfold itemPut at hk
  rw [hx] at hk
  cases k with
  | int k' =>
    have hk : PostF K C B D (match ixNat xs.length k' with
      | some j => .next (env.set i (.oL (xs.set j x)))
      | none => .bad) := hk
    cases hj : ixNat xs.length k' with
    | none => rw [hj] at hk; exact hk.elim
    | some j =>
      rw [hj] at hk
      obtain ⟨a', vs', k1, k2, k3, k4⟩ := S'.write hx
      rw [h1] at k1
      cases k1
      cases rw'
      refine ⟨a, vs', k', j, rfl, rfl, k2, by rw [ixN_eq, k3.length]; exact hj, ?_⟩
      have e1 : Sub M (part N' fs) := fun b o q => by
        unfold part
        rw [if_neg fun h => by rw [(S.fr b h).1] at q; cases q]
        exact g.nn b o (sub_full S b o q)
      exact hk _ _ σ fs (k4 (RVs.set (r.mono e1) k3))
  | _ => exact hk.elim
theorem es_item {te ti : TE} {m b : EX} {i : Nat} (ha : EvE K C te m) (hb : EvE K C ti b) : EvS K C (tAsg te (gSub (tVar i) ti rSetL)) (sOn i (sItem i b m)) := fun B M H σ env fs S D h => by
  unfold sOn at h
  split at h
  · rename_i xs hx
    refine ha M H σ (hide env) S.g.nh S.sl.hid _ (post_hid S h fun x M' H' _ g S' hq v rv => ?_)
    exact item_put hx hb S' rv hq
  · exact h.elim
theorem es_itemN {te ti : TE} {m b : EX} {i : Nat} (ha : EvE K C te m) (hb : EvE K C ti b) : EvS K C (tAsg te (gSub (tVar i) ti rSetL)) (sOn i (sItemN i b m)) := fun B M H σ env fs S D h => by
  unfold sOn at h
  split at h
  · rename_i xs hx
    refine ha _ H σ env (full_sub S) S.sv _ (post_full S h fun x N' H' _ g S' hq v rv => ?_)
    obtain ⟨hn, hq⟩ := PostF.ite hq
    exact item_put hx hb S' (RV.strip (S.kindsN g) x rv hn) hq
  · exact h.elim
theorem es_aug {te : TE} {m : EX} {i : Nat} {r : R2} {f : Val → Val → Res Val} (hr : OpS K r f) (n : ∀ x y, NX (f x y)) (ha : EvE K C te m) : EvS K C (tAug i te r) (sAug f i m) := fun B M H σ env fs S D h => by
  unfold sAug at h
  split at h
  · rename_i x hx
    obtain ⟨v, h1, h2⟩ := S.sv.sh_at hx
    refine ⟨v, h1, ?_⟩
    refine ha _ H σ env (full_sub S) S.sv _ (post_full S h fun y N' H' _ g S' hq w rw' => ?_)
    cases hz : f x y with
    | bad => rw [hz] at hq; exact hq.elim
    | exc q => exact absurd hz (n x y q)
    | ok z =>
      rw [hz] at hq
      refine hr N' H' g.nh v w x y (h2.mono g.nn) rw' _ ⟨z, hz, fun N2 H2 g2 u ru => ?_⟩
      obtain ⟨hn, hq⟩ := PostF.ite hq
      have g3 := g.trans g2
      obtain ⟨fs', S2⟩ := (S.behind g3).putV (i := i) (RV.strip (S.kindsN g3) z ru hn)
      exact hq _ H2 _ fs' S2
  · exact h.elim
theorem es_if {tt : TT} {mt : EB} {t u : TS} {m n : ST} (hc : EvB K C tt mt) (h1 : EvS K C t m) (h2 : EvS K C u n) : EvS K C (tIfS tt t u) (sIf mt m n) := fun B M H σ env fs S D h => by
  refine hc _ H σ env (full_sub S) S.sv _ (post_full S h fun b N' H' _ g S' hq => ?_)
  cases b with
  | true => exact h1 B _ H' σ env fs S' D hq
  | false => exact h2 B _ H' σ env fs S' D hq
theorem es_ret {te : TE} {m : EX} (ha : EvE K C te m) : EvS K C (tRet te) (sRet m) := fun B M H σ env fs S D h => by
  refine ha _ H σ env (full_sub S) S.sv _ (post_full S h fun x N' H' _ g S' hq v rv => ?_)
  exact hq N' H' v ((full_gr S).trans g) rv
theorem es_retN : EvS K C tRetN sRetN := fun B M H σ env fs S D h => h _ H .non S.g .non
theorem es_while {tt : TT} {mt : EB} {t : TS} {m : ST} {n : Nat} (hc : EvB K C tt mt) (h1 : EvS K C t m) : EvS K C (tWhile tt t) (sWhile n mt m) := fun B M H σ env fs S D h => by
  refine ⟨fun k σ H => ∃ M env fs, SR K B M H σ env fs ∧ PostF K C B D (whileL mt m k env), ⟨n, M, env, fs, S, h⟩, ?_⟩
  rintro k σ H ⟨M, env, fs, S, h⟩
  cases k with
  | zero => exact h.elim
  | succ k =>
    refine hc _ H σ env (full_sub S) S.sv _ (post_full S h fun b N' H' _ g S' hq => ?_)
    cases b with
    | false => exact hq _ H' σ fs S'
    | true =>
      refine ⟨fun σ' H' => ∃ M env fs, SR K B M H' σ' env fs ∧ PostF K C B D (whileL mt m k env), fun σ' H' w => ⟨k, Nat.lt_succ_self _, w⟩, ?_⟩
      refine h1 B _ H' σ env fs S' _ ?_
      have hq' : PostF K C B D (match m env with
        | .next e' => whileL mt m k e'
        | .cont e' => whileL mt m k e'
        | .brk e' => .next e'
        | .ret v => .ret v
        | .exc q e' => .exc q e'
        | .bad => .bad) := hq
      cases hm : m env with
      | next e => rw [hm] at hq'; exact fun M' H' σ' fs' S' => ⟨M', e, fs', S', hq'⟩
      | cont e => rw [hm] at hq'; exact fun M' H' σ' fs' S' => ⟨M', e, fs', S', hq'⟩
      | brk e => rw [hm] at hq'; exact hq'
      | ret v => rw [hm] at hq'; exact hq'
      | exc q e => rw [hm] at hq'; exact hq'
      | bad => rw [hm] at hq'; exact hq'
theorem es_for {wi : TI} {it : EI} {g : TG} {put : Put} {is : List Nat} {t : TS} {m : ST} (hi : EvI K C wi it) (hp : EvP K g put is) (h1 : EvS K C t m) : EvS K C (tFor wi g t) (sFor it put m) := fun B M H σ env fs S D h => by
  refine hi M H σ (hide env) S.g.nh S.sl.hid _ (post_hid S h fun xs M1 H1 _ g1 S1 hq J hJ => ?_)
  obtain ⟨G, Y, w, hG, hY⟩ := hJ
  refine for_it w (fun i σ H => ∃ M env fs, Sub M1 M ∧ SR K B M H σ env fs ∧ PostF K C B D (forL put m (xs.drop i) env)) ⟨M1, env, fs, Same.refl _, S1, by rw [List.drop_zero]; exact hq⟩ ?_ ?_ ?_
  · rintro i σ H hi ⟨M, env, fs, e, S, _⟩
    exact hG H fun a o q => S.g.nh a o (e a o q)
  · rintro i v σ Hi Hx hi ⟨M, env, fs, e, S, hf⟩ y
    obtain ⟨Nx, x, gx, hx, rx⟩ := hY i Hi v Hx hi (fun a o q => S.g.nh a o (e a o q)) y
    rw [List.drop_eq_getElem_cons hi] at hf
    have hxe : xs[i] = x := by rw [List.getElem?_eq_getElem hi] at hx; exact Option.some.inj hx
    rw [hxe] at hf
    -- the frozen part: with what the item made
    let Nu : Hp := fun a => if Nx a = none then M a else Nx a
    have gu : Gr M Hi Nu Hx := by
      refine ⟨gx.hh, fun a o q => ?_, fun a o q => ?_, fun a q => ?_⟩
      · show (if Nx a = none then M a else Nx a) = some o
        by_cases hz : Nx a = none
        · rw [if_pos hz]; exact q
        · rw [if_neg hz]
          cases hq : Nx a with
          | none => exact absurd hq hz
          | some o' =>
            have h1 := gx.nh a o' hq
            have h2 := gx.hh a o (S.g.nh a o q)
            rw [h1] at h2
            exact h2
      · have q' : (if Nx a = none then M a else Nx a) = some o := q
        by_cases hz : Nx a = none
        · rw [if_pos hz] at q'; exact gx.hh a o (S.g.nh a o q')
        · rw [if_neg hz] at q'; exact gx.nh a o q'
      · have q' : (if Nx a = none then M a else Nx a) ≠ none := q
        by_cases hz : Nx a = none
        · rw [if_pos hz] at q'; exact .inl q'
        · rcases gx.nw a hz with h1 | h1
          · cases hq : M1 a with
            | none => exact absurd hq h1
            | some o => exact .inl (by rw [e a o hq]; simp)
          · exact .inr h1
    have u1 : Sub Nx Nu := fun a o q => by show (if Nx a = none then M a else Nx a) = some o; rw [if_neg (by rw [q]; simp)]; exact q
    have S2 := S.behindH gu
    have hf' : PostF K C B D ((put x env).nx.flow env fun e => match m e with
        | .next e' => forL put m (xs.drop (i + 1)) e'
        | .cont e' => forL put m (xs.drop (i + 1)) e'
        | .brk e' => .next e'
        | .ret v => .ret v
        | .exc q e' => .exc q e'
        | .bad => .bad) := hf
    cases hput : put x env with
    | bad => rw [hput] at hf'; exact hf'.elim
    | exc q => rw [hput] at hf'; exact hf'.elim
    | ok e1 =>
      rw [hput] at hf'
      refine hp Nu Hx σ env v x e1 S2.g.nh (rx.mono u1) hput _ fun l hl he => ?_
      obtain ⟨fs', S3⟩ := S2.sets (l := l) fun t ht => (hl t ht).2
      rw [← he] at S3
      have eu : Sub M1 Nu := e.trans gu.nn
      refine h1 { B with l := M1 } Nu Hx _ e1 fs' (S3.at_low eu) _ ?_
      have hf2 : PostF K C B D (match m e1 with
        | .next e' => forL put m (xs.drop (i + 1)) e'
        | .cont e' => forL put m (xs.drop (i + 1)) e'
        | .brk e' => .next e'
        | .ret v => .ret v
        | .exc q e' => .exc q e'
        | .bad => .bad) := hf'
      cases hm : m e1 with
      | next e => rw [hm] at hf2; exact fun M' H' σ' fs' S' => ⟨M', e, fs', S'.lo, S'.of_low S1.lo, hf2⟩
      | cont e => rw [hm] at hf2; exact fun M' H' σ' fs' S' => ⟨M', e, fs', S'.lo, S'.of_low S1.lo, hf2⟩
      | brk e => rw [hm] at hf2; exact fun M' H' σ' fs' S' => hf2 M' H' σ' fs' (S'.of_low S1.lo)
      | ret v => rw [hm] at hf2; exact hf2
      | exc q e =>
        rw [hm] at hf2
        obtain ⟨w, q1, q2⟩ := hf2
        exact ⟨w, q1, fun cls d M H σ fs S' hx => q2 cls d M H σ fs (S'.of_low S1.lo) hx⟩
      | bad => rw [hm] at hf2; exact hf2.elim
  · rintro σ H ⟨M, env, fs, e, S, hf⟩
    rw [List.drop_length] at hf
    exact hf M H σ fs S
end
end Vm

/-! The value machine over HandS: dicts that a slot owns. -/
namespace Vm
open PySem L2 PyProof.Rows
/-- a dict that is made -/
def EvFD (K : PySem.W.Frag) (C : Cn) (te : TE) (m : EX) : Prop := ∀ N H σ env, Sub N H → SV K N σ env → ∀ Q : VK, PostR C σ N H (m env) (fun x N' H' => ∃ xs, x = .dct xs ∧ ∀ p vs, H' p = none → RKs K N' vs xs → Q (.ref p) (upd H' p (.dK vs))) → te σ H Q
section
variable {K : PySem.W.Frag} {C : Cn} {B : Bs} {M H : Hp} {σ : L2.St} {env : Env} {fs : List Addr} {D : Ends}
theorem efd_nil : EvFD K C tDNewK (eC (.dct [])) := fun N H σ env e s Q h p hp => by
  obtain ⟨xs, e1, k⟩ := h N H (Gr.refl e)
  cases e1
  exact k p [] hp .nil
theorem SR.ownG (S : SR K B M H σ env fs) {i : Nat} (hi : i < env.length) {p : Addr} {o : HO} {e : Slot} (hp : H p = none) (r : ∀ H', H' p = some o → SlR1 K M H' (some (.ref p)) e [p]) : ∃ fs', SR K B M (upd H p o) (σ.set i (some (.ref p))) (env.set i e) fs' := by
  obtain ⟨s0, f1, f, f2, h1, h2, h3, h4⟩ := S.sl.at (List.getElem?_eq_getElem hi)
  have hne : ∀ a, H a ≠ none → a ≠ p := fun a h z => by subst z; exact h hp
  have hM : M p = none := by
    cases hq : M p with
    | none => rfl
    | some o => have := S.g.nh p o hq; rw [hp] at this; cases this
  have hB : B.h p = none := S.g.hh.free hp
  refine ⟨f1 ++ ([p] ++ f2), ⟨S.g.hh.trans fun a o q => by rw [upd_ne (hne a (by rw [q]; simp))]; exact q, S.g.nn, fun a o q => ?_, S.g.nw⟩, S.lo, fun a ha => ?_, ?_, h4 (Same.refl _) (fun a ha => upd_ne (hne a (S.sl.known a ?_))) (r _ upd_same)⟩
  · have := S.g.nh a o q
    rw [upd_ne (hne a (by rw [this]; simp))]
    exact this
  · simp only [List.mem_append, List.mem_singleton] at ha
    rcases ha with ha | ha | ha
    · exact S.fr a (by rw [h2]; simp [ha])
    · subst ha; exact ⟨hM, hB⟩
    · exact S.fr a (by rw [h2]; simp [ha])
  · refine nodup_mid (by rw [← h2]; exact S.nd) (List.nodup_cons.mpr ⟨by simp, .nil⟩) fun a ha hb => ?_
    rw [List.mem_singleton] at ha
    subst ha
    exact S.sl.known a (by rw [h2]; simp only [List.mem_append] at hb ⊢; rcases hb with h | h <;> simp [h]) hp
  · rw [h2]
    simp only [List.mem_append] at ha ⊢
    rcases ha with h | h <;> simp [h]
/-- the slot's own dict is written -/
theorem SR.writeD (S : SR K B M H σ env fs) {i : Nat} {xs : List (Key × Val)} (hi : env[i]? = some (.oD xs)) : ∃ a vs, σ[i]? = some (some (.ref a)) ∧ H a = some (.dK vs) ∧ RKs K M vs xs ∧
    ∀ {ws : List (L2.Key × V)} {ys : List (Key × Val)}, RKs K M ws ys → SR K B M (upd H a (.dK ws)) σ (env.set i (.oD ys)) fs := by
  obtain ⟨s0, f1, f, f2, h1, h2, h3, h4⟩ := S.sl.at hi
  cases h3 with
  | @oD a vs _ ha r =>
    refine ⟨a, vs, h1, ha, r, fun {ws ys} r' => ?_⟩
    have hfs : a ∈ fs := by rw [h2]; simp
    have hne : ∀ b ∈ f1 ++ f2, b ≠ a := fun b hb z => by
      subst z
      have hn := S.nd
      rw [h2, List.nodup_append] at hn
      obtain ⟨_, n2, n3⟩ := hn
      rcases List.mem_append.mp hb with hb | hb
      · exact n3 b hb b (by simp) rfl
      · rw [List.nodup_append] at n2
        exact n2.2.2 b (by simp) b hb rfl
    have hsl := h4 (M' := M) (H' := upd H a (.dK ws)) (Same.refl _) (fun b hb => upd_ne (hne b hb)) (.oD upd_same r')
    have hset : σ.set i (some (.ref a)) = σ := by
      obtain ⟨hl, he⟩ := List.getElem?_eq_some_iff.mp h1
      rw [← he, List.set_getElem_self]
    rw [hset] at hsl
    have hB := (S.fr a hfs).2
    have hM := (S.fr a hfs).1
    refine ⟨⟨fun b o q => ?_, S.g.nn, fun b o q => ?_, S.g.nw⟩, S.lo, S.fr, S.nd, by rw [h2]; exact hsl⟩
    · rw [upd_ne (ne_of_none q hB)]
      exact S.g.hh b o q
    · rw [upd_ne (ne_of_none q hM)]
      exact S.g.nh b o q
/-- the slot's own dict stays from here on -/
theorem SR.freezeD (S : SR K B M H σ env fs) {i : Nat} {xs : List (Key × Val)} (hi : env[i]? = some (.oD xs)) : ∃ M' fs', SR K B M' H σ (env.set i (.sh (.dct xs))) fs' := by
  obtain ⟨s0, f1, f, f2, h1, h2, h3, h4⟩ := S.sl.at hi
  cases h3 with
  | @oD a vs _ ha r =>
    have hfs : a ∈ fs := by rw [h2]; simp
    have hne : ∀ b ∈ f1 ++ f2, b ≠ a := fun b hb z => by
      subst z
      have hn := S.nd
      rw [h2, List.nodup_append] at hn
      obtain ⟨_, n2, n3⟩ := hn
      rcases List.mem_append.mp hb with hb | hb
      · exact n3 b hb b (by simp) rfl
      · rw [List.nodup_append] at n2
        exact n2.2.2 b (by simp) b hb rfl
    have hB := (S.fr a hfs).2
    have hM := (S.fr a hfs).1
    have em : Sub M (upd M a (.dK vs)) := fun b o q => by rw [upd_ne (ne_of_none q hM)]; exact q
    have hsl := h4 (M' := upd M a (.dK vs)) (H' := H) em (fun b hb => rfl) (.sh (v := .ref a) (.dct upd_same (RKs.mono em _ r)))
    have hset : σ.set i (some (.ref a)) = σ := by
      obtain ⟨hl, he⟩ := List.getElem?_eq_some_iff.mp h1
      rw [← he, List.set_getElem_self]
    rw [hset] at hsl
    refine ⟨_, _, ⟨S.g.hh, fun b o q => em b o (S.g.nn b o q), fun b o q => ?_, fun b q => ?_⟩, S.lo.trans em, fun b hb => ?_, ?_, hsl⟩
    · by_cases hb : b = a
      · subst hb; rw [upd_same] at q; rw [← q]; exact ha
      · rw [upd_ne hb] at q; exact S.g.nh b o q
    · by_cases hb : b = a
      · subst hb; exact .inr hB
      · rw [upd_ne hb] at q; exact S.g.nw b q
    · have hb' : b ∈ f1 ++ f2 := by simpa using hb
      have hbf : b ∈ fs := by
        rw [h2]; simp only [List.mem_append] at hb' ⊢; rcases hb' with h | h <;> simp [h]
      exact ⟨by rw [upd_ne (hne b hb')]; exact (S.fr b hbf).1, (S.fr b hbf).2⟩
    · exact nodup_mid (by rw [← h2]; exact S.nd) .nil fun a ha => by cases ha
theorem es_freezeD {t : TS} {m : ST} {i : Nat} (h1 : EvS K C t m) : EvS K C t (sSeq (sFreezeD i) m) := fun B M H σ env fs S D h => by
  have h : PostF K C B D ((sFreezeD i env).bind m) := h
  unfold sFreezeD at h
  split at h
  · rename_i xs hx
    obtain ⟨M', fs', S'⟩ := S.freezeD hx
    exact h1 B M' H σ _ fs' S' D h
  · exact h.elim
theorem es_ownD {te : TE} {m : EX} {i : Nat} (ha : EvFD K C te m) : EvS K C (tAsg te (gName i)) (sOwnD i m) := fun B M H σ env fs S D h => by
  refine ha M H σ (hide env) S.g.nh S.sl.hid _ (post_hid S h fun x M' H' _ g S' hx => ?_)
  cases x with
  | dct xs =>
    obtain ⟨hi, hx⟩ := PostF.ite hx
    refine ⟨xs, rfl, fun p vs hp rvs => ?_⟩
    obtain ⟨fs', S2⟩ := S'.ownG (o := .dK vs) (e := .oD xs) hi hp fun H' q => .oD q rvs
    exact hx M' _ _ fs' S2
  | _ => exact hx.elim
theorem item_putD {ti : TE} {b : EX} {i : Nat} {v : V} {x : Val} {xs : List (Key × Val)} (hx : env[i]? = some (.oD xs)) (hb : EvE K C ti b) (S : SR K B M H σ env fs) (r : RV K M v x) (h : PostF K C B D ((b env).flow env fun k => itemPutD i env x k)) :
    tVar i σ H fun x H2 => ti σ H2 fun y H3 => ∃ a H4, x = .ref a ∧ DPut H3 a y v H4 ∧ D.nx σ H4 := by
  obtain ⟨a, vs, h1, h2, h3, _⟩ := S.writeD hx
  refine ⟨.ref a, h1, ?_⟩
  refine hb _ H σ env (full_sub S) S.sv _ (post_full S h fun k N' H' _ g S' hk w rw' => ?_)
  unfold itemPutD at hk
  rw [hx] at hk
  cases hq : keyOfV k with
  | none => rw [hq] at hk; exact hk.elim
  | some q =>
    rw [hq] at hk
    obtain ⟨hl, hk⟩ := PostF.ite (show PostF K C B D (if xs.length < 16777216 then .next (env.set i (.oD (putV xs q x))) else .bad) from hk)
    obtain ⟨a', vs', k1, k2, k3, k4⟩ := S'.writeD hx
    rw [h1] at k1
    cases k1
    have e1 : Sub M (part N' fs) := fun b o q => by
      unfold part
      rw [if_neg fun h => by rw [(S.fr b h).1] at q; cases q]
      exact g.nn b o (sub_full S b o q)
    refine ⟨a, _, rfl, ?_, hk _ _ σ fs (k4 (k3.put (r.mono e1)))⟩
    rw [keyOf_rv rw' hq]
    exact DPut.k k2 (by rw [line_eq, k3.length]; exact hl)
theorem es_putD {te ti : TE} {m b : EX} {i : Nat} (ha : EvE K C te m) (hb : EvE K C ti b) : EvS K C (sDPut (tVar i) ti te) (sOnD i (sPutD i b m)) := fun B M H σ env fs S D h => by
  unfold sOnD at h
  split at h
  · rename_i xs hx
    refine ha M H σ (hide env) S.g.nh S.sl.hid _ (post_hid S h fun x M' H' _ g S' hq v rv => ?_)
    exact item_putD hx hb S' rv hq
  · exact h.elim
theorem es_putDN {te ti : TE} {m b : EX} {i : Nat} (ha : EvE K C te m) (hb : EvE K C ti b) : EvS K C (sDPut (tVar i) ti te) (sOnD i (sPutDN i b m)) := fun B M H σ env fs S D h => by
  unfold sOnD at h
  split at h
  · rename_i xs hx
    refine ha _ H σ env (full_sub S) S.sv _ (post_full S h fun x N' H' _ g S' hq v rv => ?_)
    obtain ⟨hn, hq⟩ := PostF.ite hq
    exact item_putD hx hb S' (RV.strip (S.kindsN g) x rv hn) hq
  · exact h.elim
end
end Vm

/-! The value machine over HandS: the steps of a text, defs. -/
namespace Vm
open PySem L2 PyProof.Rows

/-! ### truth -/
theorem RV.tru {K : PySem.W.Frag} {N H : Hp} (e : Sub N H) {v : V} {x : Val} {k : Bool} (r : RV K N v x) (h : truth x = .ok k) : TruV K v H k := by
  cases r with
  | non => cases h; rfl
  | bl b => cases h; rfl
  | int i => cases h; rfl
  | str y =>
    simp only [truth] at h
    split at h
    · rename_i hl
      cases h
      refine ⟨len_line hl, ?_⟩
      show (y.length != 0) = ((y.length : Int) != 0)
      rw [Bool.eq_iff_iff]
      simp
    · cases h
  | tup h1 r =>
    cases h
    refine .inr (.inl ⟨_, st_mono e h1, ?_⟩)
    cases r <;> rfl
  | lst h1 r =>
    cases h
    refine .inl ⟨_, sq_mono e h1, ?_⟩
    cases r <;> rfl
  | dct h1 r =>
    cases h
    refine .inr (.inr ⟨_, e _ _ h1, ?_⟩)
    cases r <;> rfl
theorem nx_truth (x : Val) : NX (truth x) := by
  unfold truth
  split <;> first | exact nx_ok | exact nx_ite nx_ok nx_bad
abbrev tTru (K : PySem.W.Frag) (ta : TE) : TT := fun σ H Q => ta σ H fun x H' => ∃ k, TruV K x H' k ∧ Q k H'
theorem eb_truth {K : PySem.W.Frag} {C : Cn} {ta : TE} {ma : EX} (ha : EvE K C ta ma) : EvB K C (tTru K ta) (bTruth ma) := fun N H σ env e s Q h => by
  refine ha N H σ env e s _ (PostR.imp (PostR.bind h) fun x N1 H1 g1 h1 v rv => ?_)
  obtain ⟨k, hk, h2⟩ := h1.val (nx_truth x)
  exact ⟨k, rv.tru g1.nh hk, h2 N1 H1 (Gr.refl g1.nh)⟩

/-- what a body's context gives -/
structure Fr (X : Cx) (C : Cn) : Prop where
  hu : X.A.units + 64 < cLine
  ca : X.calm = true
  le : Lets X C
  ow : PassesOwn (model X.prog X.w) X.A X.env X.xe
theorem Fr.blk {X : Cx} {C : Cn} (F : Fr X C) (s : Shared) (H : Hp) (scope : Scope) (cenv : PySem.Env) (fp : List Addr) : Fr (X.blk s H scope cenv fp) (C0 C) := ⟨F.hu, F.ca, Lets.no, PassesOwn.never⟩

section
variable {X : Cx} {C : Cn} {a b c : Expr} {ta tb tc : TE} {ma mb mc : EX} {pos p : Pos}
/-! ### expressions -/
theorem se_var (i : Nat) {x : Str} (hN : X.N[i]? = some x := by rfl) (hv : Vis X.env.scope x := by first | exact Or.inl rfl | exact Or.inr (Or.inl rfl) | exact Or.inr (Or.inr rfl)) (hd : (x == ("__debug__" : Str)) = false := by decide)
    (hcd : (x == ("__classdict__" : Str)) = false := by decide) : SE X C (.Name x pos) (tVar i) (eVar i) := ⟨pv i hN hv hd hcd, ev_var⟩
theorem se_int {i : Int} {j} : SE X C (.Constant (.int i) j pos) (tC (.int i)) (eC (.int i)) := ⟨pe_int, ev_c fun _ => .int i⟩
theorem se_bl {b : Bool} {j} : SE X C (.Constant (.bool b) j pos) (tC (.bl b)) (eC (.bl b)) := ⟨pe_bl, ev_c fun _ => .bl b⟩
theorem se_non {j} : SE X C (.Constant .none j pos) (tC .non) (eC .non) := ⟨pe_non, ev_c fun _ => .non⟩
theorem se_str {x : Str} {j} : SE X C (.Constant (.str x) j pos) (tC (.str x)) (eC (.str x)) := ⟨pe_str, ev_c fun _ => .str x⟩
/-- an int of the module -/
theorem se_gi {x : Str} {i : Int} (hm : ∃ t, X.mg x = some (.int i t)) (hg : Gl X x := by rfl) (hd : (x == ("__debug__" : Str)) = false := by decide) : SE X C (.Name x pos) (tC (.int i)) (eC (.int i)) := by
  obtain ⟨t, hm⟩ := hm
  exact ⟨pe_glob hg hm ⟨t, rfl⟩ hd, ev_c fun _ => .int i⟩
theorem se_gs {x z : Str} (hm : ∃ t, X.mg x = some (.str z t)) (hg : Gl X x := by rfl) (hd : (x == ("__debug__" : Str)) = false := by decide) : SE X C (.Name x pos) (tC (.str z)) (eC (.str z)) := by
  obtain ⟨t, hm⟩ := hm
  exact ⟨pe_glob hg hm ⟨t, rfl⟩ hd, ev_c fun _ => .str z⟩
/-- an object of the module -/
theorem se_go {x : Str} {q : Addr} {z : Val} (hm : X.mg x = some (.ref q)) (hz : ∀ N, RV X.K N (.ref q) z) (hg : Gl X x := by rfl) (hd : (x == ("__debug__" : Str)) = false := by decide) : SE X C (.Name x pos) (tC (.ref q)) (eC z) :=
  ⟨pe_glob hg hm rfl hd, ev_c hz⟩
theorem se_add (ha : SE X C a ta ma) (hb : SE X C b tb mb) : SE X C (.BinOp a .Add b pos) (tOp (rAddV X.K) ta tb) (e2 vAdd ma mb) := ⟨pe_op op_addV ha.pe hb.pe, ev_op ops_add nx_add ha.ev hb.ev⟩
theorem se_sub (ha : SE X C a ta ma) (hb : SE X C b tb mb) : SE X C (.BinOp a .Sub b pos) (tOp (rI0 fun i j => .int (i - j)) ta tb) (e2 vSub ma mb) := ⟨pe_op op_sub ha.pe hb.pe, ev_op ops_sub nx_sub ha.ev hb.ev⟩
theorem se_mul (ha : SE X C a ta ma) (hb : SE X C b tb mb) : SE X C (.BinOp a .Mult b pos) (tOp rMulV ta tb) (e2 vMul ma mb) := ⟨pe_op op_mul ha.pe hb.pe, ev_op ops_mul nx_mul ha.ev hb.ev⟩
theorem se_div (ha : SE X C a ta ma) (hb : SE X C b tb mb) : SE X C (.BinOp a .FloorDiv b pos) (tOp rDivV ta tb) (e2 vDiv ma mb) := ⟨pe_op op_fdivW ha.pe hb.pe, ev_op ops_div nx_div ha.ev hb.ev⟩
theorem se_mod (ha : SE X C a ta ma) (hb : SE X C b tb mb) : SE X C (.BinOp a .Mod b pos) (tOp rModV ta tb) (e2 vMod ma mb) := ⟨pe_op op_mod ha.pe hb.pe, ev_op ops_mod nx_mod ha.ev hb.ev⟩
theorem se_pow (ha : SE X C a ta ma) (hb : SE X C b tb mb) : SE X C (.BinOp a .Pow b pos) (tOp rPowV ta tb) (e2 vPow ma mb) := ⟨pe_op op_pow ha.pe hb.pe, ev_op ops_pow nx_pow ha.ev hb.ev⟩
theorem se_neg (ha : SE X C a ta ma) : SE X C (.UnaryOp .USub a pos) (tUn (rU fun i => .int (-i)) ta) (e1 vNeg ma) := ⟨pe_un un_neg ha.pe, ev_un uns_neg nx_neg ha.ev⟩
theorem se_not (ha : SE X C a ta ma) : SE X C (.UnaryOp .Not a pos) (tNotV ta) (eNot ma) := ⟨pe_not ha.pe, ev_not ha.ev⟩
/-- a comparison, as it stands in a Compare -/
structure CmpS (X : Cx) (op : CmpOp) (r : R2) (f : Val → Val → Res Val) : Prop where
  o : OpR X (compareOp op) r
  s : OpS X.K r f
  n : ∀ x y, NX (f x y)
theorem c_lt : CmpS X .Lt (rI0 fun i j => .bl (decide (i < j))) vLt := ⟨op_lt, ops_lt, nx_lt⟩
theorem c_le : CmpS X .LtE (rI0 fun i j => .bl (decide (i ≤ j))) vLe := ⟨op_le, ops_le, nx_le⟩
theorem c_gt : CmpS X .Gt (rI0 fun i j => .bl (decide (j < i))) vGt := ⟨op_gt, ops_gt, nx_gt⟩
theorem c_ge : CmpS X .GtE (rI0 fun i j => .bl (decide (j ≤ i))) vGe := ⟨op_ge, ops_ge, nx_ge⟩
theorem c_eq (F : Fr X C) : CmpS X .Eq (rEqV X.K) vEq := ⟨op_eqV F.hu, ops_eq, nx_eq⟩
theorem c_ne (F : Fr X C) : CmpS X .NotEq (rNeV X.K) vNe := ⟨op_neV F.hu, ops_ne, nx_ne⟩
theorem c_in (F : Fr X C) : CmpS X .In (rInW X.K) vIn := ⟨op_inW (Nat.lt_of_le_of_lt (Nat.add_le_add_left (by decide : 1 ≤ 64) _) F.hu), ops_inW, nx_inV⟩
theorem c_ni (F : Fr X C) : CmpS X .NotIn (rNotInW X.K) vNotIn := ⟨op_notInW (Nat.lt_of_le_of_lt (Nat.add_le_add_left (by decide : 1 ≤ 64) _) F.hu), ops_notInW, nx_notInV⟩
theorem c_is : CmpS X .Is rIsN vIs := ⟨op_isN, ops_is, nx_is⟩
theorem c_isn : CmpS X .IsNot rNotN vIsNot := ⟨op_notN, ops_isNot, nx_isNot⟩
theorem se_cmp {op : CmpOp} {r : R2} {f : Val → Val → Res Val} (o : CmpS X op r f) (ha : SE X C a ta ma) (hb : SE X C b tb mb) (hm : behindInMarks op b = false := by first | exact nomark _ | rfl) : SE X C (.Compare a [op] [b] pos) (tOp r ta tb) (e2 f ma mb) := ⟨pe_cmpR o.o ha.pe hb.pe hm, ev_op o.s o.n ha.ev hb.ev⟩
theorem se_chain {op op' : CmpOp} {r r' : R2} {f f' : Val → Val → Res Val} (o : CmpS X op r f) (o' : CmpS X op' r' f') (ha : SE X C a ta ma) (hb : SE X C b tb mb) (hc : SE X C c tc mc) (hm : lastMarks [op, op'] [b, c] = false := by with_unfolding_all rfl) : SE X C (.Compare a [op, op'] [b, c] pos) (tChain r r' ta tb tc) (eChain f f' ma mb mc) := ⟨pe_chain o.o o'.o ha.pe hb.pe hc.pe hm, ev_chain o.s o'.s o.n o'.n ha.ev hb.ev hc.ev⟩
variable {tt tu : TT} {mt mu : EB} {rest : List Expr}
theorem se_if (ht : SB X C c tt mt) (ha : SE X C a ta ma) (hb : SE X C b tb mb) : SE X C (.IfExp c a b pos) (tIf tt ta tb) (eIf mt ma mb) := ⟨pe_ifExp ht.pe ha.pe hb.pe, ev_if ht.ev ha.ev hb.ev⟩
theorem se_one {op} (ha : SE X C a ta ma) : SE X C (.BoolOp op [a] pos) ta ma := ⟨pe_one ha.pe, ha.ev⟩
theorem se_and (ha : SE X C a ta ma) (hb : SE X C (.BoolOp .And (b :: rest) pos) tb mb) : SE X C (.BoolOp .And (a :: b :: rest) pos) (tAndV ta tb) (eAnd ma mb) := ⟨pe_and ha.pe hb.pe, ev_and ha.ev hb.ev⟩
theorem se_or (ha : SE X C a ta ma) (hb : SE X C (.BoolOp .Or (b :: rest) pos) tb mb) : SE X C (.BoolOp .Or (a :: b :: rest) pos) (tOrV ta tb) (eOr ma mb) := ⟨pe_or ha.pe hb.pe, ev_or ha.ev hb.ev⟩
theorem Fr.u1 {X : Cx} {C : Cn} (F : Fr X C) : X.A.units + 1 < cLine := Nat.lt_of_le_of_lt (Nat.add_le_add_left (by decide : 1 ≤ 64) _) F.hu
theorem se_ix (F : Fr X C) (ha : SE X C a ta ma) (hb : SE X C b tb mb) (hs : PlainIx b := by intro _ _; rfl) : SE X C (.Subscript a b pos) (tOp (rIxV X.K) ta tb) (e2 vIx ma mb) := ⟨pe_ix (ix_V F.u1) ha.pe hb.pe hs, ev_op ops_ixV nx_ixV ha.ev hb.ev⟩
structure SPr (X : Cx) (C : Cn) (pos : Pos) (keys : List (Option Expr)) (values : List Expr) (trs : List (TE × TE)) (ps : List (Key × EX)) : Prop where
  pe : PPs X pos keys values trs
  ev : EvPr X.K C trs ps
theorem sp_nil : SPr X C pos [] [] [] [] := ⟨pps_nil, epr_nil⟩
theorem sp_str {x : Str} {j} {p : Pos} {ks : List (Option Expr)} {vs : List Expr} {trs : List (TE × TE)} {ps : List (Key × EX)} (ha : SE X C a ta ma) (hr : SPr X C pos ks vs trs ps) : SPr X C pos (some (.Constant (.str x) j p) :: ks) (a :: vs) ((tC (kV (.inr x)), ta) :: trs) ((.inr x, ma) :: ps) :=
  ⟨pps_cons pe_str ha.pe hr.pe, epr_cons ha.ev hr.ev⟩
theorem sp_int {x : Int} {j} {p : Pos} {ks : List (Option Expr)} {vs : List Expr} {trs : List (TE × TE)} {ps : List (Key × EX)} (ha : SE X C a ta ma) (hr : SPr X C pos ks vs trs ps) : SPr X C pos (some (.Constant (.int x) j p) :: ks) (a :: vs) ((tC (kV (.inl x)), ta) :: trs) ((.inl x, ma) :: ps) :=
  ⟨pps_cons pe_int ha.pe hr.pe, epr_cons ha.ev hr.ev⟩
theorem se_dict {keys : List (Option Expr)} {values : List Expr} {trs : List (TE × TE)} {ps : List (Key × EX)} (h : SPr X C pos keys values trs ps) (hall : keys.all (·.isSome) = true := by rfl) (hl : keys.length = values.length := by rfl) (h0 : keys ≠ [] := by intro h; cases h) (h15 : keys.length ≤ 15 := by decide) :
    SE X C (.Dict keys values pos) (tDisp trs) (eDict ps) := ⟨pe_disp h.pe hall hl h0 h15, ev_dict h.ev⟩
structure SO' (X : Cx) (C : Cn) (e : Option Expr) (te : TO) (m : Option EX) : Prop where
  pe : PO X e te
  ev : EvO X.K C te m
theorem so_none : SO' X C none tNoPart none := ⟨po_none, eo_none⟩
theorem so_some (ha : SE X C a ta ma) : SO' X C (some a) (tPart ta) (some ma) := ⟨po_some ha.pe, eo_some ha.ev⟩
theorem se_cut {lo hi : Option Expr} {tl th : TO} {ml mh : Option EX} {p2 : Pos} (ha : SE X C a ta ma) (hl : SO' X C lo tl ml) (hh : SO' X C hi th mh) : SE X C (.Subscript a (.Slice lo hi none p2) pos) (tSl (rSlV X.K) ta tl th) (eCut ma ml mh) :=
  ⟨pe_slice sl_V ha.pe hl.pe hh.pe, ev_cut ha.ev hl.ev hh.ev⟩
theorem sf_cut {lo hi : Option Expr} {tl th : TO} {ml mh : Option EX} {p2 : Pos} (ha : SE X C a ta ma) (hl : SO' X C lo tl ml) (hh : SO' X C hi th mh) : SF X C (.Subscript a (.Slice lo hi none p2) pos) (tSl (rSlV X.K) ta tl th) (eCut ma ml mh) :=
  ⟨pe_slice sl_V ha.pe hl.pe hh.pe, ef_cut ha.ev hl.ev hh.ev⟩
theorem sf_add (ha : SE X C a ta ma) (hb : SE X C b tb mb) : SF X C (.BinOp a .Add b pos) (tOp (rAddV X.K) ta tb) (e2 vAdd ma mb) := ⟨pe_op op_addV ha.pe hb.pe, ef_add ha.ev hb.ev⟩
variable {es : List Expr} {t : TA} {m : EL}
theorem sa_nil : SA X C [] tNil aNil := ⟨pa_nil, ea_nil⟩
theorem sa_cons (ha : SE X C a ta ma) (hr : SA X C es t m) (hs : starEach (a :: es) X.env = (false, eval a X.env) :: starEach es X.env := by rfl) : SA X C (a :: es) (tCons ta t) (aCons ma m) := ⟨pa_cons ha.pe hr.pe hs, ea_cons ha.ev hr.ev⟩
theorem se_tup {x1} (h : SA X C es t m) : SE X C (.Tuple es x1 pos) (tTup t) (eArgs vTup m) := ⟨pe_tup h.pe, ev_tup h.ev⟩
theorem sf_lst (h : SA X C es t m) : SF X C (.List es pos) (tLst t) (eArgs vLst m) := ⟨pe_lst h.pe, ef_lst h.ev⟩
theorem lst_lst (env : Env) (x : Val) (h : eArgs vLst m env = .ok x) : ∃ xs, x = .lst xs := by
  unfold eArgs at h
  cases hm : m env with
  | ok ys =>
    rw [hm] at h
    simp only [Res.bind_ok, vLst] at h
    split at h
    · cases h; exact ⟨_, rfl⟩
    · cases h
  | exc e => rw [hm] at h; cases h
  | bad => rw [hm] at h; cases h
theorem se_lst (h : SA X C es t m) : SE X C (.List es pos) (tLst t) (eArgs vLst m) := ⟨pe_lst h.pe, EvF.e lst_lst (ef_lst h.ev)⟩
/-! calls of what is built in -/
theorem se_len (hm : X.mg "len" = none) (h : SA X C (a :: es) t m) (hg : Gl X "len" := by rfl) (he : starEach (a :: es) X.env = (false, eval a X.env) :: starEach es X.env := by rfl) (hpl : (backTo pos (starEach es X.env)).any (·.1) = false := by rfl) :
    SE X C (.Call (.Name "len" p) (a :: es) [] pos) (tCB (rLenC X.K) t) (eArgs vLen m) := ⟨pe_callB call_lenC hg hm boot_len h.pe (by decide) (by decide) he hpl, ev_cb ca_len nx_len h.ev⟩
theorem se_sum (F : Fr X C) (hm : X.mg "sum" = none) (h : SA X C (a :: es) t m) (hg : Gl X "sum" := by rfl) (he : starEach (a :: es) X.env = (false, eval a X.env) :: starEach es X.env := by rfl) (hpl : (backTo pos (starEach es X.env)).any (·.1) = false := by rfl) :
    SE X C (.Call (.Name "sum" p) (a :: es) [] pos) (tCB (rSum X.K) t) (eArgs vSum m) := ⟨pe_callB (cr_sum F.ca) hg hm (by decide +kernel) h.pe (by decide) (by decide) he hpl, ev_cb ca_sum nx_sum h.ev⟩
theorem se_max (F : Fr X C) (hm : X.mg "max" = none) (h : SA X C (a :: es) t m) (hg : Gl X "max" := by rfl) (he : starEach (a :: es) X.env = (false, eval a X.env) :: starEach es X.env := by rfl) (hpl : (backTo pos (starEach es X.env)).any (·.1) = false := by rfl) :
    SE X C (.Call (.Name "max" p) (a :: es) [] pos) (tCB (rMaxC X.K) t) (eArgs vMax m) := ⟨pe_callB (call_maxC F.ca) hg hm (by decide +kernel) h.pe (by decide) (by decide) he hpl, ev_cb ca_max nx_max h.ev⟩
theorem se_min (F : Fr X C) (hm : X.mg "min" = none) (h : SA X C (a :: es) t m) (hg : Gl X "min" := by rfl) (he : starEach (a :: es) X.env = (false, eval a X.env) :: starEach es X.env := by rfl) (hpl : (backTo pos (starEach es X.env)).any (·.1) = false := by rfl) :
    SE X C (.Call (.Name "min" p) (a :: es) [] pos) (tCB (rMinC X.K) t) (eArgs vMin m) := ⟨pe_callB (call_minC F.ca) hg hm (by decide +kernel) h.pe (by decide) (by decide) he hpl, ev_cb ca_min nx_min h.ev⟩
theorem se_any (F : Fr X C) (hm : X.mg "any" = none) (h : SA X C (a :: es) t m) (hg : Gl X "any" := by rfl) (he : starEach (a :: es) X.env = (false, eval a X.env) :: starEach es X.env := by rfl) (hpl : (backTo pos (starEach es X.env)).any (·.1) = false := by rfl) :
    SE X C (.Call (.Name "any" p) (a :: es) [] pos) (tCB (rAny X.K) t) (eArgs vAny m) := ⟨pe_callB (cr_any F.ca) hg hm (by decide +kernel) h.pe (by decide) (by decide) he hpl, ev_cb ca_any nx_any h.ev⟩
theorem se_all (F : Fr X C) (hm : X.mg "all" = none) (h : SA X C (a :: es) t m) (hg : Gl X "all" := by rfl) (he : starEach (a :: es) X.env = (false, eval a X.env) :: starEach es X.env := by rfl) (hpl : (backTo pos (starEach es X.env)).any (·.1) = false := by rfl) :
    SE X C (.Call (.Name "all" p) (a :: es) [] pos) (tCB (rAll X.K) t) (eArgs vAll m) := ⟨pe_callB (cr_all F.ca) hg hm (by decide +kernel) h.pe (by decide) (by decide) he hpl, ev_cb ca_all nx_all h.ev⟩
theorem se_intOf (hm : X.mg "int" = none) (h : SA X C (a :: es) t m) (hg : Gl X "int" := by rfl) (he : starEach (a :: es) X.env = (false, eval a X.env) :: starEach es X.env := by rfl) (hpl : (backTo pos (starEach es X.env)).any (·.1) = false := by rfl) :
    SE X C (.Call (.Name "int" p) (a :: es) [] pos) (tCB rIntC t) (eArgs vInt m) := ⟨pe_callTy call_intC hg hm PySem.Pv.boot_int h.pe (by decide) (by decide) he hpl, ev_cb ca_int nx_int h.ev⟩
theorem se_tupOf (hm : X.mg "tuple" = none) (h : SA X C (a :: es) t m) (hg : Gl X "tuple" := by rfl) (he : starEach (a :: es) X.env = (false, eval a X.env) :: starEach es X.env := by rfl) (hpl : (backTo pos (starEach es X.env)).any (·.1) = false := by rfl) :
    SE X C (.Call (.Name "tuple" p) (a :: es) [] pos) (tCB (rTupC X.K) t) (eArgs vTupOf m) := ⟨pe_callTy call_tuple_of hg hm PySem.Pv.boot_tuple h.pe (by decide) (by decide) he hpl, ev_cb ca_tupOf nx_tupOf h.ev⟩
theorem sf_listOf (hm : X.mg "list" = none) (h : SA X C (a :: es) t m) (hg : Gl X "list" := by rfl) (he : starEach (a :: es) X.env = (false, eval a X.env) :: starEach es X.env := by rfl) (hpl : (backTo pos (starEach es X.env)).any (·.1) = false := by rfl) :
    SF X C (.Call (.Name "list" p) (a :: es) [] pos) (tCB (rListC X.K) t) (eArgs vListOf m) := ⟨pe_callTy call_list_of hg hm PySem.Pv.boot_list h.pe (by decide) (by decide) he hpl, ef_listOf h.ev⟩
theorem listOf_lst (env : Env) (x : Val) (h : eArgs vListOf m env = .ok x) : ∃ xs, x = .lst xs := by
  unfold eArgs at h
  cases hm : m env with
  | ok ys =>
    rw [hm] at h
    simp only [Res.bind_ok] at h
    unfold vListOf at h
    split at h
    · cases h; exact ⟨_, rfl⟩
    · cases h; exact ⟨_, rfl⟩
    · cases h
  | exc e => rw [hm] at h; cases h
  | bad => rw [hm] at h; cases h
theorem se_listOf (hm : X.mg "list" = none) (h : SA X C (a :: es) t m) (hg : Gl X "list" := by rfl) (he : starEach (a :: es) X.env = (false, eval a X.env) :: starEach es X.env := by rfl) (hpl : (backTo pos (starEach es X.env)).any (·.1) = false := by rfl) :
    SE X C (.Call (.Name "list" p) (a :: es) [] pos) (tCB (rListC X.K) t) (eArgs vListOf m) := ⟨(sf_listOf (C := C) hm h hg he hpl).pe, EvF.e listOf_lst (sf_listOf (C := C) (p := p) (pos := pos) hm h hg he hpl).ev⟩
theorem se_isi {u : Ty} {x : Str} {p2 : Pos} (hm : X.mg "isinstance" = none) (hx : X.mg x = none) (hv : bootBuiltins x = some (.type u.nm)) (ha : SE X C a ta ma) (hg : Gl X "isinstance" := by rfl) (hgx : Gl X x := by rfl) (hn : x ≠ "__name__" := by decide) (hd : (x == ("__debug__" : Str)) = false := by decide)
    (he : starEach [a, .Name x p2] X.env = (false, eval a X.env) :: starEach [.Name x p2] X.env := by rfl) (he2 : starEach [.Name x p2] X.env = (false, eval (.Name x p2) X.env) :: starEach [] X.env := by rfl) (hpl : (backTo pos (starEach [.Name x p2] X.env)).any (·.1) = false := by rfl) :
    SE X C (.Call (.Name "isinstance" p) [a, .Name x p2] [] pos) (tCB (rIsi X.K) (tCons ta (tCons (tC (.ty u.nm)) tNil))) (e1 (vIsi u) ma) :=
  ⟨pe_callB call_isi hg hm boot_isinstance (pa_cons ha.pe (pa_cons (pe_bltn (v := .ty u.nm) hgx hx hv rfl hn hd) pa_nil he2) he) (by decide) (by decide) he hpl, ev_isi ha.ev⟩
theorem bi_int : bootBuiltins "int" = some (.type Ty.int.nm) := by decide +kernel
theorem bi_bool : bootBuiltins "bool" = some (.type Ty.bool.nm) := by decide +kernel
theorem bi_str : bootBuiltins "str" = some (.type Ty.str.nm) := by decide +kernel
theorem bi_list : bootBuiltins "list" = some (.type Ty.list.nm) := by decide +kernel
theorem bi_tuple : bootBuiltins "tuple" = some (.type Ty.tuple.nm) := by decide +kernel
theorem bi_dict : bootBuiltins "dict" = some (.type Ty.dict.nm) := by decide +kernel
/-! tests -/
theorem sb_cmp {op : CmpOp} {r : R2} {f : Val → Val → Res Val} (o : CmpS X op r f) (ha : SE X C a ta ma) (hb : SE X C b tb mb) (hm : behindInMarks op b = false := by first | exact nomark _ | rfl) : SB X C (.Compare a [op] [b] pos) (tTest (tOp r ta tb)) (bVal (e2 f ma mb)) :=
  ⟨pt_cmpR o.o ha.pe hb.pe hm, eb_test (ev_op o.s o.n ha.ev hb.ev)⟩
theorem sb_chain {op op' : CmpOp} {r r' : R2} {f f' : Val → Val → Res Val} (o : CmpS X op r f) (o' : CmpS X op' r' f') (ha : SE X C a ta ma) (hb : SE X C b tb mb) (hc : SE X C c tc mc) (hm : lastMarks [op, op'] [b, c] = false := by with_unfolding_all rfl) :
    SB X C (.Compare a [op, op'] [b, c] pos) (tTest (tChain r r' ta tb tc)) (bVal (eChain f f' ma mb mc)) := ⟨pt_chain o.o o'.o ha.pe hb.pe hc.pe hm, eb_test (ev_chain o.s o'.s o.n o'.n ha.ev hb.ev hc.ev)⟩
theorem sb_not (ha : SB X C a tt mt) : SB X C (.UnaryOp .Not a pos) (tNot tt) (bNot mt) := ⟨pt_not ha.pe, eb_not ha.ev⟩
theorem sb_tru (ha : SE X C a ta ma) (he : ∀ whole, isTrue a X.env whole = (do let v ← whole; standAt a.pos; holding [v] (truthy v)) := by intro _; rfl) : SB X C a (tTru X.K ta) (bTruth ma) := ⟨pt_truth ha.pe he, eb_truth ha.ev⟩
theorem sw_and1 (ha : SB X C a tt mt) : SW X C (.BoolOp .And [a] pos) tt mt := ⟨pw_and1 ha.pe, ha.ev⟩
theorem sw_or1 (ha : SB X C a tt mt) : SW X C (.BoolOp .Or [a] pos) tt mt := ⟨pw_or1 ha.pe, ha.ev⟩
theorem sw_and (ha : SB X C a tt mt) (hb : SW X C (.BoolOp .And (b :: rest) pos) tu mu) : SW X C (.BoolOp .And (a :: b :: rest) pos) (tAnd tt tu) (bAnd mt mu) := ⟨pw_and ha.pe hb.pe, eb_and ha.ev hb.ev⟩
theorem sw_or (ha : SB X C a tt mt) (hb : SW X C (.BoolOp .Or (b :: rest) pos) tu mu) : SW X C (.BoolOp .Or (a :: b :: rest) pos) (tOr tt tu) (bOr mt mu) := ⟨pw_or ha.pe hb.pe, eb_or ha.ev hb.ev⟩
theorem sb_w (h : SW X C a tt mt) : SB X C a tt mt := ⟨h.pe.pt, h.ev⟩
/-! what is walked, targets -/
structure STg (X : Cx) (tg : Expr) (g : TG) (put : Put) (is : List Nat) : Prop where
  pe : PG X tg g
  ev : EvP X.K g put is
theorem sg_name (i : Nat) {x : Str} (hN : X.N.Nodup := by assumption) (hi : X.N[i]? = some x := by rfl) (hx : Loc X.env.scope x := by first | exact .inl rfl | exact .inr rfl) (hf : X.fn x = true ∨ X.env.scope.names.lookup x = some .local := by first | exact .inr rfl | exact .inl rfl) : STg X (.Name x pos) (gName i) (pName i) [i] :=
  ⟨pg_name hN hi hx hf, ep_name⟩
structure STs (X : Cx) (tgs : List Expr) (g : TGs) (is : List Nat) : Prop where
  pe : PGs X tgs g
  ev : EvPs X.K g is
theorem sgs_nil : STs X [] gNil [] := ⟨pgs_nil, eps_nil⟩
theorem sgs_cons {i : Nat} {g : TGs} {is : List Nat} (h1 : STg X a (gName i) (pName i) [i]) (h2 : STs X es g is) (hs : (assignEach (a :: es) X.env).map (·.2) = assign a X.env :: (assignEach es X.env).map (·.2) := by rfl) : STs X (a :: es) (gCons (gName i) g) (i :: is) :=
  ⟨pgs_cons h1.pe h2.pe hs, eps_cons h2.ev⟩
theorem sg_tup {k : Nat} {g : TGs} {is : List Nat} (F : Fr X C) (h : STs X es g is) (hn : (assignEach es X.env).length = is.length := by rfl) (hst : (assignEach es X.env).findIdx? (·.1) = none := by rfl) : STg X (.Tuple es k pos) (gTup X.K is.length g) (pTup is) is := ⟨pg_tup F.ca h.pe hn hst, ep_tup h.ev⟩
theorem si_seq {tg : Expr} (ha : SE X C a ta ma) : SI X C tg a (iSeqT X.K ta) (iSeq ma) := ⟨pi_seqT ha.pe, ei_seq ha.ev⟩
theorem si_rng1 {tg : Expr} (hm : X.mg "range" = none) (ha : SE X C a ta ma) (hg : Gl X "range" := by rfl) (hs : starEach [a] X.env = [(false, eval a X.env)] := by rfl) : SI X C tg (.Call (.Name "range" p) [a] [] pos) (iRng1 (tCons ta tNil)) (iRange1 ma) := ⟨pi_range1 hg hm (pa_cons ha.pe pa_nil hs) hs, ei_range1 ha.ev⟩
theorem si_rng2 {tg : Expr} (hm : X.mg "range" = none) (ha : SE X C a ta ma) (hb : SE X C b tb mb) (hg : Gl X "range" := by rfl) (hs : starEach [a, b] X.env = [(false, eval a X.env), (false, eval b X.env)] := by rfl) (hs2 : starEach [b] X.env = [(false, eval b X.env)] := by rfl) :
    SI X C tg (.Call (.Name "range" p) [a, b] [] pos) (iRng2 (tCons ta (tCons tb tNil))) (iRange2 ma mb) := ⟨pi_range2 hg hm (pa_cons ha.pe (pa_cons hb.pe pa_nil hs2) (by rw [hs, hs2])) hs hs2, ei_range2 ha.ev hb.ev⟩
end
end Vm

/-! The value machine over HandS: comprehensions, statements, defs. -/
namespace Vm
open PySem L2 PyProof.Rows

section
variable {X : Cx} {C : Cn} {a b c : Expr} {ta tb tc : TE} {ma mb mc : EX} {pos p : Pos} {tt : TT} {mt : EB}
/-! ### comprehensions -/
structure STt (X : Cx) (C : Cn) (es : List Expr) (te : TT) (m : EB) : Prop where
  pe : PTs X es te
  ev : EvB X.K C te m
theorem st_nil : STt X C [] tYes bYes := ⟨pts_nil, fun N H σ env e s Q h => PostR.now (P := fun x _ H' => Q x H') e h⟩
theorem st_one (h : SB X C a tt mt) : STt X C [a] tt mt := ⟨pts_one h.pe, h.ev⟩
abbrev inBlk (X : Cx) (scope : Scope) (P : Cx → Prop) : Prop := ∀ (s : Shared) (H : Hp) (Cc : Addr) (cl : List (Str × Addr)) (fp : List Addr), P (X.blk s H scope (compEnvC scope cl Cc X.env) fp)
theorem sf_comp {elt tg iter : Expr} {ifs : List Expr} {scope : Scope} {own : List (Str × Nat)} {wi : TI} {it : EI} {g : TG} {put : Put} {is : List Nat} {te : TE} {me : EX} (F : Fr X C) (hi : SI X C tg iter wi it) (hp : inBlk X scope fun Y => STg Y tg g put is) (ht : inBlk X scope fun Y => STt Y (C0 C) ifs tt mt)
    (he : inBlk X scope fun Y => SE Y (C0 C) elt te me) (hsub : ∀ i ∈ is, i ∈ own.map (·.2) := by decide) (hN : X.N.Nodup := by assumption) (ok : BlkOk X.N X.env.scope scope own := by exact blkOk_by (by rfl)) (hs : ∀ x, foldedSetIterable iter X.env x = pure x := by intro _; rfl) :
    SF X C (.ListComp elt [⟨tg, iter, ifs, 0⟩] scope pos) (tLc wi g tt te (own.map (·.2))) (eComp it (own.map (·.2)) put mt me) :=
  ⟨pe_lc F.ca hN hi.pi ok (fun s H Cc cl fp => (hp s H Cc cl fp).pe) (fun s H Cc cl fp => (ht s H Cc cl fp).pe) (fun s H Cc cl fp => (he s H Cc cl fp).pe) hs,
   ef_comp hi.ev (hp X.s_0 X.H_0 0 [] []).ev hsub (ht X.s_0 X.H_0 0 [] []).ev (he X.s_0 X.H_0 0 [] []).ev⟩
theorem comp_lst {it : EI} {own : List Nat} {put : Put} (env : Env) (x : Val) (h : eComp it own put mt me env = .ok x) : ∃ xs, x = .lst xs := by
  unfold eComp at h
  cases hm : it env with
  | ok ys =>
    rw [hm] at h
    simp only [Res.bind_ok] at h
    split at h
    · cases hq : compL put mt me (wipeE env own) ys with
      | ok r => rw [hq] at h; cases h; exact ⟨_, rfl⟩
      | exc e => rw [hq] at h; cases h
      | bad => rw [hq] at h; cases h
    · cases h
  | exc e => rw [hm] at h; cases h
  | bad => rw [hm] at h; cases h
theorem SF.comp {it : EI} {own : List Nat} {put : Put} {te : TE} (h : SF X C a te (eComp it own put mt me)) : SE X C a te (eComp it own put mt me) := ⟨h.pe, EvF.e comp_lst h.ev⟩

/-! ### statements -/
variable {st : Stmt} {rest : List Stmt} {t u : TS} {m n : ST} {te : TE} {me : EX}
theorem ss_nil : SSs X C [] tNext sNext := ⟨pss_nil, es_next⟩
theorem ss_one (h : SSt X C st t m) : SSs X C [st] t m := ⟨pss_one h.ps, h.ev⟩
theorem ss_cons (h : SSt X C st t m) (r : SSs X C rest u n) : SSs X C (st :: rest) (tSeq t u) (sSeq m n) := ⟨pss_cons h.ps r.ps, es_seq h.ev r.ev⟩
/-- ahead of these: the slot's list stays from here on; slots forgotten -/
theorem ss_freeze (i : Nat) (r : SSs X C rest u n) : SSs X C rest u (sSeq (sFreeze i) n) := ⟨r.ps, es_freeze r.ev⟩
theorem ss_forget (is : List Nat) (r : SSs X C rest u n) : SSs X C rest u (sSeq (sForget is) n) := ⟨r.ps, es_forget r.ev⟩
theorem ss_then (is : List Nat) (r : SSs X C rest u n) : SSs X C rest u (sSeq n (sForget is)) := ⟨r.ps, es_then r.ev⟩
theorem sst_freeze (i : Nat) (r : SSt X C st u n) : SSt X C st u (sSeq (sFreeze i) n) := ⟨r.ps, es_freeze r.ev⟩
theorem sst_forget (is : List Nat) (r : SSt X C st u n) : SSt X C st u (sSeq (sForget is) n) := ⟨r.ps, es_forget r.ev⟩
theorem ss_pass : SSt X C (.Pass pos) tNext sNext := ⟨ps_pass, es_next⟩
theorem ss_break : SSt X C (.Break pos) tBreak sBreak := ⟨ps_break, es_break⟩
theorem ss_cont : SSt X C (.Continue pos) tCont sCont := ⟨ps_continue, es_cont⟩
theorem ss_doc {x : Str} {j} {pos' : Pos} : SSt X C (.Expr (.Constant (.str x) j pos) pos') tNext sNext := ⟨ps_doc, es_next⟩
theorem ss_expr (ha : SE X C a ta ma) (hs : swapsWith a none pos.line X.env = pure false := by rfl) : SSt X C (.Expr a pos) (tDrop ta) (sDrop ma) := ⟨ps_expr ha.pe hs, es_drop ha.ev⟩
theorem ss_ret (ha : SE X C a ta ma) : SSt X C (.Return (some a) pos) (tRet ta) (sRet ma) := ⟨ps_ret ha.pe, es_ret ha.ev⟩
theorem ss_retN : SSt X C (.Return none pos) tRetN sRetN := ⟨ps_retN, es_retN⟩
theorem ss_if {as bs : List Stmt} (hc : SB X C c tt mt) (ha : SSs X C as t m) (hb : SSs X C bs u n) : SSt X C (.If c as bs pos) (tIfS tt t u) (sIf mt m n) := ⟨ps_if hc.pe ha.ps hb.ps, es_if hc.ev ha.ev hb.ev⟩
theorem ss_while {as : List Stmt} (k : Nat) (F : Fr X C) (hc : SB X C c tt mt) (ha : SSs X C as t m) : SSt X C (.While c as [] pos) (tWhile tt t) (sWhile k mt m) := ⟨ps_while F.ow hc.pe ha.ps, es_while hc.ev ha.ev⟩
theorem ss_for {tg iter : Expr} {wi : TI} {it : EI} {g : TG} {put : Put} {is : List Nat} {as : List Stmt} (F : Fr X C) (hi : SI X C tg iter wi it) (hp : STg X tg g put is) (ha : SSs X C as t m)
    (hs : ∀ x, foldedSetIterable iter X.env x = pure x := by intro _; rfl) : SSt X C (.For tg iter as [] pos) (tFor wi g t) (sFor it put m) := ⟨ps_for F.ow F.ca hi.pi hp.pe ha.ps hs, es_for hi.ev hp.ev ha.ev⟩
/-- name = e -/
theorem ss_asg (i : Nat) {x : Str} (ps : PE X a ta) (ev : EvS X.K C (tAsg ta (gName i)) m) (hs : swapsWith a (some (.Name x p)) pos.line X.env = pure false := by rfl) (hN : X.N.Nodup := by assumption) (hi : X.N[i]? = some x := by rfl) (hx : Loc X.env.scope x := by first | exact .inl rfl | exact .inr rfl)
    (hf : X.fn x = true ∨ X.env.scope.names.lookup x = some .local := by first | exact .inr rfl | exact .inl rfl) : SSt X C (.Assign [.Name x p] a pos) (tAsg ta (gName i)) m := ⟨ps_set hN hi hx ps hs hf, ev⟩
theorem ss_set (i : Nat) {x : Str} (ha : SE X C a ta ma) (hs : swapsWith a (some (.Name x p)) pos.line X.env = pure false := by rfl) (hN : X.N.Nodup := by assumption) (hi : X.N[i]? = some x := by rfl) (hx : Loc X.env.scope x := by first | exact .inl rfl | exact .inr rfl)
    (hf : X.fn x = true ∨ X.env.scope.names.lookup x = some .local := by first | exact .inr rfl | exact .inl rfl) : SSt X C (.Assign [.Name x p] a pos) (tAsg ta (gName i)) (sSet i ma) := ss_asg i ha.pe (es_set ha.ev) hs hN hi hx hf
theorem ss_setN (i : Nat) {x : Str} (ha : SE X C a ta ma) (hs : swapsWith a (some (.Name x p)) pos.line X.env = pure false := by rfl) (hN : X.N.Nodup := by assumption) (hi : X.N[i]? = some x := by rfl) (hx : Loc X.env.scope x := by first | exact .inl rfl | exact .inr rfl)
    (hf : X.fn x = true ∨ X.env.scope.names.lookup x = some .local := by first | exact .inr rfl | exact .inl rfl) : SSt X C (.Assign [.Name x p] a pos) (tAsg ta (gName i)) (sSetN i ma) := ss_asg i ha.pe (es_setN ha.ev) hs hN hi hx hf
theorem ss_own (i : Nat) {x : Str} (ha : SF X C a ta ma) (hs : swapsWith a (some (.Name x p)) pos.line X.env = pure false := by rfl) (hN : X.N.Nodup := by assumption) (hi : X.N[i]? = some x := by rfl) (hx : Loc X.env.scope x := by first | exact .inl rfl | exact .inr rfl)
    (hf : X.fn x = true ∨ X.env.scope.names.lookup x = some .local := by first | exact .inr rfl | exact .inl rfl) : SSt X C (.Assign [.Name x p] a pos) (tAsg ta (gName i)) (sOwn i ma) := ss_asg i ha.pe (es_own ha.ev) hs hN hi hx hf
theorem ss_ownN (i : Nat) {x : Str} (ha : SF X C a ta ma) (hs : swapsWith a (some (.Name x p)) pos.line X.env = pure false := by rfl) (hN : X.N.Nodup := by assumption) (hi : X.N[i]? = some x := by rfl) (hx : Loc X.env.scope x := by first | exact .inl rfl | exact .inr rfl)
    (hf : X.fn x = true ∨ X.env.scope.names.lookup x = some .local := by first | exact .inr rfl | exact .inl rfl) : SSt X C (.Assign [.Name x p] a pos) (tAsg ta (gName i)) (sOwnN i ma) := ss_asg i ha.pe (es_ownN ha.ev) hs hN hi hx hf
/-- a, b = e -/
theorem ss_put {tg : Expr} {g : TG} {put : Put} {is : List Nat} (hp : STg X tg g put is) (hnx : ∀ x env, NX (put x env)) (ha : SE X C a ta ma) (hs : swapsWithSole [tg] a pos.line X.env = pure false := by rfl) (hw : swappedStores [tg] a X.env = pure none := by rfl)
    (h1 : (assignEach [tg] X.env).map (·.2) = [assign tg X.env] := by rfl) : SSt X C (.Assign [tg] a pos) (tAsg ta g) (sPut put ma) := ⟨ps_asg ha.pe hp.pe hs hw h1, es_put hp.ev hnx ha.ev⟩
theorem nx_pName {i : Nat} (x : Val) (env : Env) : NX (pName i x env) := by unfold pName; exact nx_ite nx_ok nx_bad
theorem nx_putAll : ∀ {is : List Nat} (xs : List Val) (env : Env), NX (putAll is xs env)
  | [], [], _ => nx_ok
  | [], _ :: _, _ => nx_bad
  | _ :: _, [], _ => nx_bad
  | i :: is, x :: xs, env => nx_bind (nx_pName x env) fun e => nx_putAll xs e
theorem nx_pTup {is : List Nat} (x : Val) (env : Env) : NX (pTup is x env) := by
  unfold pTup
  split
  · exact nx_putAll _ _
  · exact nx_bad
/-- x[b] = a -/
theorem ss_item (i : Nat) {x : Str} {p2 : Pos} (ha : SE X C a ta ma) (hb : SE X C b tb mb) (hN : X.N[i]? = some x := by rfl) (hv : Vis X.env.scope x := by first | exact Or.inl rfl | exact Or.inr (Or.inl rfl) | exact Or.inr (Or.inr rfl)) (hd : (x == ("__debug__" : Str)) = false := by decide)
    (hcd : (x == ("__classdict__" : Str)) = false := by decide) (hsb : ∀ v, assign (.Subscript (.Name x p) b p2) X.env v = (do
      let ov ← holding [v] (eval (.Name x p) X.env)
      let iv ← holding [v, ov] (eval b X.env)
      standAt p2
      holding [v, ov, iv] (setItem ov iv v)
      release [v, ov, iv] []) := by intro _; rfl)
    (hs : swapsWithSole [.Subscript (.Name x p) b p2] a pos.line X.env = pure false := by rfl) (hw : swappedStores [.Subscript (.Name x p) b p2] a X.env = pure none := by rfl)
    (h1 : (assignEach [.Subscript (.Name x p) b p2] X.env).map (·.2) = [assign (.Subscript (.Name x p) b p2) X.env] := by rfl) : SSt X C (.Assign [.Subscript (.Name x p) b p2] a pos) (tAsg ta (gSub (tVar i) tb rSetL)) (sOn i (sItem i mb ma)) :=
  ⟨ps_asg ha.pe (pg_sub (pv i hN hv hd hcd) hb.pe set_list hsb) hs hw h1, es_item ha.ev hb.ev⟩
theorem ss_itemN (i : Nat) {x : Str} {p2 : Pos} (ha : SE X C a ta ma) (hb : SE X C b tb mb) (hN : X.N[i]? = some x := by rfl) (hv : Vis X.env.scope x := by first | exact Or.inl rfl | exact Or.inr (Or.inl rfl) | exact Or.inr (Or.inr rfl)) (hd : (x == ("__debug__" : Str)) = false := by decide)
    (hcd : (x == ("__classdict__" : Str)) = false := by decide) (hsb : ∀ v, assign (.Subscript (.Name x p) b p2) X.env v = (do
      let ov ← holding [v] (eval (.Name x p) X.env)
      let iv ← holding [v, ov] (eval b X.env)
      standAt p2
      holding [v, ov, iv] (setItem ov iv v)
      release [v, ov, iv] []) := by intro _; rfl)
    (hs : swapsWithSole [.Subscript (.Name x p) b p2] a pos.line X.env = pure false := by rfl) (hw : swappedStores [.Subscript (.Name x p) b p2] a X.env = pure none := by rfl)
    (h1 : (assignEach [.Subscript (.Name x p) b p2] X.env).map (·.2) = [assign (.Subscript (.Name x p) b p2) X.env] := by rfl) : SSt X C (.Assign [.Subscript (.Name x p) b p2] a pos) (tAsg ta (gSub (tVar i) tb rSetL)) (sOn i (sItemN i mb ma)) :=
  ⟨ps_asg ha.pe (pg_sub (pv i hN hv hd hcd) hb.pe set_list hsb) hs hw h1, es_itemN ha.ev hb.ev⟩
theorem ops_ipAdd {K : PySem.W.Frag} : OpS K (ipI fun i j => i + j) vIpAdd := by
  intro N H e v w x y rx ry Q ⟨z, hz, k⟩
  unfold vIpAdd at hz
  split at hz
  · cases hz; cases rx; cases ry
    exact ⟨_, _, rfl, rfl, k N H (Gr.refl e) _ (.int _)⟩
  · cases hz
theorem ops_ipSub {K : PySem.W.Frag} : OpS K (ipI fun i j => i - j) vSub := by
  intro N H e v w x y rx ry Q ⟨z, hz, k⟩
  unfold vSub at hz
  split at hz
  · cases hz; cases rx; cases ry
    exact ⟨_, _, rfl, rfl, k N H (Gr.refl e) _ (.int _)⟩
  · cases hz
theorem nx_ipAdd (x y : Val) : NX (vIpAdd x y) := by unfold vIpAdd; split <;> first | exact nx_ok | exact nx_bad
theorem ss_aug (i : Nat) {x : Str} {op : Operator} {r : TIp} {f : Val → Val → Res Val} (ho : PIp X op r) (hr : OpS X.K r f) (nx : ∀ x y, NX (f x y)) (ha : SE X C a ta ma) (hN : X.N.Nodup := by assumption) (hi : X.N[i]? = some x := by rfl) (hx : Loc X.env.scope x := by first | exact .inl rfl | exact .inr rfl)
    (hf : X.fn x = true ∨ X.env.scope.names.lookup x = some .local := by first | exact .inr rfl | exact .inl rfl) : SSt X C (.AugAssign (.Name x p) op a pos) (tAug i ta r) (sAug f i ma) := ⟨ps_aug hN hi hx ha.pe ho hf, es_aug hr nx ha.ev⟩
theorem ss_augAdd (i : Nat) {x : Str} (ha : SE X C a ta ma) (hN : X.N.Nodup := by assumption) (hi : X.N[i]? = some x := by rfl) (hx : Loc X.env.scope x := by first | exact .inl rfl | exact .inr rfl)
    (hf : X.fn x = true ∨ X.env.scope.names.lookup x = some .local := by first | exact .inr rfl | exact .inl rfl) : SSt X C (.AugAssign (.Name x p) .Add a pos) (tAug i ta (ipI fun i j => i + j)) (sAug vIpAdd i ma) := ss_aug i ip_add ops_ipAdd nx_ipAdd ha hN hi hx hf
theorem ss_augSub (i : Nat) {x : Str} (ha : SE X C a ta ma) (hN : X.N.Nodup := by assumption) (hi : X.N[i]? = some x := by rfl) (hx : Loc X.env.scope x := by first | exact .inl rfl | exact .inr rfl)
    (hf : X.fn x = true ∨ X.env.scope.names.lookup x = some .local := by first | exact .inr rfl | exact .inl rfl) : SSt X C (.AugAssign (.Name x p) .Sub a pos) (tAug i ta (ipI fun i j => i - j)) (sAug vSub i ma) := ss_aug i ip_sub ops_ipSub nx_sub ha hN hi hx hf
/-- x.append(a) -/
theorem pe_app (i : Nat) {x : Str} {pa : Pos} (ha : SE X C a ta ma) (hN : X.N[i]? = some x := by rfl) (hv : Vis X.env.scope x := by first | exact Or.inl rfl | exact Or.inr (Or.inl rfl) | exact Or.inr (Or.inr rfl)) (hd : (x == ("__debug__" : Str)) = false := by decide) (hcd : (x == ("__classdict__" : Str)) = false := by decide)
    (hbase : attributeBase (.Name x p) "append" X.env (eval (.Name x p) X.env) = eval (.Name x p) X.env := by rfl)
    (hfew : ((backTo pos (starEach [a] X.env)).all (fun x => !x.1) && (backToKw pos (keywordEach [] X.env)).all (fun x => x.1.isSome)
      && decide ([a].length + ([] : List Keyword).length + (if ([] : List Keyword).isEmpty then 0 else 1) < 30)) = true := by rfl)
    (hline : (pa.endLine == pos.line) = true := by rfl) (hs : starEach [a] X.env = (false, eval a X.env) :: starEach [] X.env := by rfl) (hplain : (backTo pos (starEach [] X.env)).any (·.1) = false := by rfl) :
    PE X (.Call (.Attribute (.Name x p) "append" pa) [a] [] pos) (tBM X.K "list" rAppend (tVar i) (tCons ta tNil)) :=
  pe_bm PySem.F.plainAttrs_list PySem.F.slot_list_append PySem.F.type_list_append mt_append (pv i hN hv hd hcd) (pa_cons ha.pe pa_nil hs) hbase hfew hline hs hplain
theorem ss_app (i : Nat) {x : Str} {pa pos2 : Pos} (ha : SE X C a ta ma) (hN : X.N[i]? = some x := by rfl) (hv : Vis X.env.scope x := by first | exact Or.inl rfl | exact Or.inr (Or.inl rfl) | exact Or.inr (Or.inr rfl)) (hd : (x == ("__debug__" : Str)) = false := by decide) (hcd : (x == ("__classdict__" : Str)) = false := by decide)
    (hbase : attributeBase (.Name x p) "append" X.env (eval (.Name x p) X.env) = eval (.Name x p) X.env := by rfl)
    (hfew : ((backTo pos (starEach [a] X.env)).all (fun x => !x.1) && (backToKw pos (keywordEach [] X.env)).all (fun x => x.1.isSome)
      && decide ([a].length + ([] : List Keyword).length + (if ([] : List Keyword).isEmpty then 0 else 1) < 30)) = true := by rfl)
    (hline : (pa.endLine == pos.line) = true := by rfl) (hs : starEach [a] X.env = (false, eval a X.env) :: starEach [] X.env := by rfl) (hplain : (backTo pos (starEach [] X.env)).any (·.1) = false := by rfl)
    (hsw : swapsWith (.Call (.Attribute (.Name x p) "append" pa) [a] [] pos) none pos2.line X.env = pure false := by rfl) : SSt X C (.Expr (.Call (.Attribute (.Name x p) "append" pa) [a] [] pos) pos2) (tDrop (tBM X.K "list" rAppend (tVar i) (tCons ta tNil))) (sAppend i ma) :=
  ⟨ps_expr (pe_app i ha hN hv hd hcd hbase hfew hline hs hplain) hsw, es_append ha.ev⟩
theorem ss_appN (i : Nat) {x : Str} {pa pos2 : Pos} (ha : SE X C a ta ma) (hN : X.N[i]? = some x := by rfl) (hv : Vis X.env.scope x := by first | exact Or.inl rfl | exact Or.inr (Or.inl rfl) | exact Or.inr (Or.inr rfl)) (hd : (x == ("__debug__" : Str)) = false := by decide) (hcd : (x == ("__classdict__" : Str)) = false := by decide)
    (hbase : attributeBase (.Name x p) "append" X.env (eval (.Name x p) X.env) = eval (.Name x p) X.env := by rfl)
    (hfew : ((backTo pos (starEach [a] X.env)).all (fun x => !x.1) && (backToKw pos (keywordEach [] X.env)).all (fun x => x.1.isSome)
      && decide ([a].length + ([] : List Keyword).length + (if ([] : List Keyword).isEmpty then 0 else 1) < 30)) = true := by rfl)
    (hline : (pa.endLine == pos.line) = true := by rfl) (hs : starEach [a] X.env = (false, eval a X.env) :: starEach [] X.env := by rfl) (hplain : (backTo pos (starEach [] X.env)).any (·.1) = false := by rfl)
    (hsw : swapsWith (.Call (.Attribute (.Name x p) "append" pa) [a] [] pos) none pos2.line X.env = pure false := by rfl) : SSt X C (.Expr (.Call (.Attribute (.Name x p) "append" pa) [a] [] pos) pos2) (tDrop (tBM X.K "list" rAppend (tVar i) (tCons ta tNil))) (sAppendN i ma) :=
  ⟨ps_expr (pe_app i ha hN hv hd hcd hbase hfew hline hs hplain) hsw, es_appendN ha.ev⟩
/-- x = {}; x[b] = a in a dict of the slot's own -/
theorem ss_ownD0 (i : Nat) {x : Str} {pos2 : Pos} (hs2 : swapsWith (.Dict [] [] p) (some (.Name x pos)) pos2.line X.env = pure false := by rfl) (hN : X.N.Nodup := by assumption) (hi : X.N[i]? = some x := by rfl) (hx : Loc X.env.scope x := by first | exact .inl rfl | exact .inr rfl)
    (hf : X.fn x = true ∨ X.env.scope.names.lookup x = some .local := by first | exact .inr rfl | exact .inl rfl) : SSt X C (.Assign [.Name x pos] (.Dict [] [] p) pos2) (tAsg tDNewK (gName i)) (sOwnD i (eC (.dct []))) := ⟨ps_set hN hi hx pe_dnewK hs2 hf, es_ownD efd_nil⟩
theorem ss_putD (i : Nat) {x : Str} {p2 : Pos} (F : Fr X C) (ha : SE X C a ta ma) (hb : SE X C b tb mb) (hN : X.N[i]? = some x := by rfl) (hv : Vis X.env.scope x := by first | exact Or.inl rfl | exact Or.inr (Or.inl rfl) | exact Or.inr (Or.inr rfl)) (hd : (x == ("__debug__" : Str)) = false := by decide)
    (hcd : (x == ("__classdict__" : Str)) = false := by decide) (hs : swapsWith a (some (.Subscript (.Name x p) b p2)) pos.line X.env = pure false := by rfl) : SSt X C (.Assign [.Subscript (.Name x p) b p2] a pos) (sDPut (tVar i) tb ta) (sOnD i (sPutD i mb ma)) :=
  ⟨ps_dput F.u1 (pv i hN hv hd hcd) hb.pe ha.pe hs, es_putD ha.ev hb.ev⟩
theorem ss_putDN (i : Nat) {x : Str} {p2 : Pos} (F : Fr X C) (ha : SE X C a ta ma) (hb : SE X C b tb mb) (hN : X.N[i]? = some x := by rfl) (hv : Vis X.env.scope x := by first | exact Or.inl rfl | exact Or.inr (Or.inl rfl) | exact Or.inr (Or.inr rfl)) (hd : (x == ("__debug__" : Str)) = false := by decide)
    (hcd : (x == ("__classdict__" : Str)) = false := by decide) (hs : swapsWith a (some (.Subscript (.Name x p) b p2)) pos.line X.env = pure false := by rfl) : SSt X C (.Assign [.Subscript (.Name x p) b p2] a pos) (sDPut (tVar i) tb ta) (sOnD i (sPutDN i mb ma)) :=
  ⟨ps_dput F.u1 (pv i hN hv hd hcd) hb.pe ha.pe hs, es_putDN ha.ev hb.ev⟩
theorem ss_freezeD (i : Nat) (r : SSs X C rest u n) : SSs X C rest u (sSeq (sFreezeD i) n) := ⟨r.ps, es_freezeD r.ev⟩
end

/-! ### defs -/
theorem so_start {K : PySem.W.Frag} {N H : Hp} : ∀ {vs : List V} {xs : List Val} {n : Nat}, RVs K N vs xs → SO K N H (vs.map some ++ List.replicate n none) (xs.map Slot.sh ++ List.replicate n Slot.un) []
  | _, _, 0, .nil => .nil
  | _, _, n + 1, .nil => SO.cons (f := []) (fs := []) (.un none) (so_start (n := n) .nil)
  | _, _, n, .cons h r => SO.cons (f := []) (fs := []) (.sh h) (so_start r)
abbrev FX (P : Program) (w : World) (K : PySem.W.Frag) (mg : Str → Option Value) (base : Heap) (N : List Str) (qual : Str) (scope : Scope) (f : Addr) (cd : Value) (A : Around) (outer : List PySem.Env) (s : Shared) (H : Hp) (E : XK) : Cx := cxOf (L2.CX P w) P w K mg base N qual scope f cd A outer s H E
/-- a def: its body's steps, whatever is wanted of an exception -/
def Body (P : Program) (w : World) (K : PySem.W.Frag) (mg : Str → Option Value) (base : Heap) (XR : XRel) (j : Nat) (N : List Str) (qual : Str) (scope : Scope) (body : List Stmt) (m : ST) : Prop :=
  ∀ (f : Addr) (cd : Value) (A : Around) (outer : List PySem.Env) (s : Shared) (H : Hp) (E : XK) (W : WX), let X := FX P w K mg base N qual scope f cd A outer s H E
    Takes X W → Fr X ⟨XR, some W⟩ → Room j X.A → ∃ t, SSs X ⟨XR, some W⟩ body t m
theorem defn_ne {k n : Nat} {m : ST} {xs : List Val} (h : defn k n m xs ≠ .bad) : xs.length = k := by
  unfold defn at h
  split at h
  · assumption
  · exact absurd rfl h
section
variable {P : Program} {w : World} {K : PySem.W.Frag} {mg : Str → Option Value} {base : Heap} {XR : XRel}
theorem fn_ok {x qual : Str} {params : Arguments} {body : List Stmt} {scope : Scope} {dvs : List V} {kws : List (Str × V)} {f : Addr} {fd : FuncData} {N ps : List Str} {j k n : Nat} {m : ST} (F : FunD K x qual params body scope dvs kws f fd) (S : FnScope N ps scope)
    (hk : ps.length = k) (hn : N.length = n) (hb : Body P w K mg base XR j N qual scope body m) : FnOk P w K mg base (L2.CX P w) (j + 1) f fd ps (spF K XR k (defn k n m)) := by
  refine F.ok S (fun vs H Q E h => ?_) (fun cdv A outer s H vs Q E hr h => ?_)
  · obtain ⟨N0, xs, _, r, hl, _⟩ := h
    rw [r.length, hl, hk]
  · have tk : Takes (FX P w K mg base N qual scope f cdv A outer s H E) (fun cls d _ H => E cls d H) := takes_of rfl rfl rfl rfl
    obtain ⟨t, h1, h2⟩ := hb f cdv A outer s H E _ tk ⟨hr.units, rfl, Lets.of tk, passes_of rfl⟩ hr
    refine ⟨t, h1, ?_⟩
    obtain ⟨N0, xs, e, r, hl, q⟩ := h
    have hst : SO K N0 H (L2.start N vs) (startE n xs) [] := by
      unfold L2.start startE
      rw [hn, r.length]
      exact so_start r
    refine h2 ⟨N0, H, fun _ => none⟩ N0 H _ _ [] ⟨Gr.refl e, (fun a o q => nomatch q), (fun a ha => by cases ha), List.nodup_nil, hst⟩ _ ?_
    unfold defn at q
    rw [if_pos hl] at q
    cases hm : m (startE n xs) with
    | next e => rw [hm] at q; exact fun M H' σ fs S' => q M H' S'.g _ .non
    | ret x => rw [hm] at q; exact fun N' H' v g rv => q N' H' g v rv
    | exc z e =>
      rw [hm] at q
      exact ⟨_, rfl, fun cls d M H' σ fs S' hx => q cls d M H' S'.g hx⟩
    | brk e => rw [hm] at q; exact q.elim
    | cont e => rw [hm] at q; exact q.elim
    | bad => rw [hm] at q; exact q.elim
theorem cal_of {x qual : Str} {params : Arguments} {body : List Stmt} {scope : Scope} {f : Addr} {fd : FuncData} {N ps : List Str} {j k n : Nat} {m : ST} (F : FunD K x qual params body scope [] [] f fd) (gm : mg x = some (.ref f)) (S : FnScope N ps scope)
    (hb : ∀ (kV doc pm : Value) (an : Option Addr) (cdv ct : Value) (us : List Value), us.length = ps.length → bindArgs (PySem.W.fnOf x qual params body scope .none kV doc pm an cdv ct) ⟨us, []⟩ = pure (ps.zip us))
    (hk : ps.length = k) (hn : N.length = n) (h : Body P w K mg base XR j N qual scope body m) : Cal P w K mg base XR x (j + 1) k (defn k n m) :=
  ⟨⟨f, fd, ps, fn_ok F S hk hn h, gm, F.kp, F.bindsN hb⟩, fun _ => defn_ne⟩
end
end Vm

/-! The value machine over HandS: a law's end. -/
namespace Vm
open PySem L2 PyProof.Rows
def spLaw (sp : Sp) : Sp := fun vs H Q E => sp vs H Q E ∧ E = fun _ _ _ => False
theorem FnOk.to0 {P : Program} {w : World} {K : PySem.W.Frag} {mg : Str → Option Value} {base : Heap} {k : Nat} {f : Addr} {fd : FuncData} {ps : List Str} {sp : Sp} (F : FnOk P w K mg base (L2.CX P w) k f fd ps sp) : FnOk P w K mg base CX0 k f fd ps (spLaw sp) :=
  ⟨fun vs H Q E h => F.len vs H Q E h.1, fun A outer s H args us vs Q E hr he hb hv h => by
    obtain ⟨h1, rfl⟩ := h
    refine codeAny_mono (F.run A outer s H args us vs Q _ hr he hb hv h1) fun r s' hq => ?_
    cases r with
    | error e =>
      obtain ⟨_, _, _, _, _, _, _, _, _, _, _, _, z⟩ := hq
      exact z.elim
    | ok fl => cases fl <;> exact hq⟩
theorem law_sp {K : PySem.W.Frag} {XR : XRel} {f : Fn} {ns : List Int} (pure : f [.lst (ns.map Val.int)] = .ret (.bl true)) {H : Hp} {a : Addr} (hS : SqL K H a (ns.map V.int)) : spLaw (spF K XR 1 f) [.ref a] H (fun v _ => v = .bl true) fun _ _ _ => False := by
  refine ⟨⟨H, [.lst (ns.map Val.int)], fun _ _ q => q, .cons (.lst hS ?_) .nil, rfl, ?_⟩, rfl⟩
  · induction ns with
    | nil => exact .nil
    | cons n ns ih =>
      exact .cons (.int n) (by
        clear ih pure hS
        induction ns with
        | nil => exact .nil
        | cons m ms ih => exact .cons (.int m) ih)
  · rw [pure]
    intro N' H' g v rv
    cases rv
    rfl
/-- a tuple of the module -/
theorem RVs.ofB {K : PySem.W.Frag} {N : Hp} : ∀ {ds : List He.Dv} {xs : List Val}, (ds.zip xs).all (fun q => match q.1, q.2 with
    | .non, .non => true
    | .bl b, .bl c => b == c
    | .int i, .int j => i == j
    | .str x, .str y => decide (x = y)
    | _, _ => false) = true → ds.length = xs.length → RVs K N (ds.map (He.Dv.v K)) xs
  | [], [], _, _ => .nil
  | [], _ :: _, _, h => by cases h
  | _ :: _, [], _, h => by cases h
  | d :: ds, x :: xs, h, hl => by
    rw [List.zip_cons_cons, List.all_cons, Bool.and_eq_true] at h
    obtain ⟨h1, h2⟩ := h
    refine .cons ?_ (RVs.ofB h2 (Nat.succ.inj hl))
    cases d <;> cases x <;> simp at h1 <;> first
      | exact .non
      | (subst h1; exact .bl _)
      | (subst h1; exact .int _)
      | (subst h1; exact .str _)
end Vm

/-! The value machine over HandS: what the module's text writes. -/
namespace Vm
open PySem L2 PyProof.Rows
/-- the Value stands for the Val in the written part -/
def vOf : Value → V
  | .bool b => .bl b
  | .int i _ => .int i
  | .str x _ => .str x
  | .ref a => .ref a
  | _ => .non
mutual
def valB (K : PySem.W.Frag) : Val → Value → Bool
  | .non, .none => true
  | .bl b, .bool c => b == c
  | .int i, .int j _ => decide (i = j)
  | .str x, .str y _ => decide (x = y)
  | .tup xs, .ref a => (match K.lookup a with
    | some ⟨.type c, _, .seq its _, _⟩ => decide (c = "tuple") && (decide (its.size ≤ sizeLine) && valsB K xs its.toList)
    | _ => false)
  | .lst xs, .ref a => (match K.lookup a with
    | some ⟨.type c, none, .seq its _, _⟩ => decide (c = "list") && (decide (its.size ≤ sizeLine) && valsB K xs its.toList)
    | _ => false)
  | _, _ => false
def valsB (K : PySem.W.Frag) : List Val → List Value → Bool
  | [], [] => true
  | x :: xs, u :: us => valB K x u && valsB K xs us
  | _, _ => false
end
mutual
theorem valB_ok {K : PySem.W.Frag} : ∀ (x : Val) (u : Value), valB K x u = true → RelV (vOf u) u ∧ ∀ N, RV K N (vOf u) x
  | .non, .none, _ => ⟨rfl, fun _ => .non⟩
  | .bl b, .bool c, h => by
    have h : (b == c) = true := h
    rw [beq_iff_eq] at h
    subst h
    exact ⟨rfl, fun _ => .bl b⟩
  | .int i, .int j t, h => by
    have h : i = j := of_decide_eq_true h
    subst h
    exact ⟨⟨t, rfl⟩, fun _ => .int i⟩
  | .str x, .str y t, h => by
    have h : x = y := of_decide_eq_true h
    subst h
    exact ⟨⟨t, rfl⟩, fun _ => .str x⟩
  | .tup xs, .ref a, h => by
    have h : (match K.lookup a with
      | some ⟨.type c, _, .seq its _, _⟩ => decide (c = "tuple") && (decide (its.size ≤ sizeLine) && valsB K xs its.toList)
      | _ => false) = true := h
    split at h
    · rename_i c od its n sl q
      rw [Bool.and_eq_true, Bool.and_eq_true] at h
      obtain ⟨h1, h2, h3⟩ := h
      obtain ⟨vs, hv, hr⟩ := valsB_ok xs its.toList h3
      refine ⟨rfl, fun N => .tup (vs := vs) (.inr ⟨_, its, n, q, congrArg Value.type (of_decide_eq_true h1), rfl, of_decide_eq_true h2, hv⟩) (hr N)⟩
    · cases h
  | .lst xs, .ref a, h => by
    have h : (match K.lookup a with
      | some ⟨.type c, none, .seq its _, _⟩ => decide (c = "list") && (decide (its.size ≤ sizeLine) && valsB K xs its.toList)
      | _ => false) = true := h
    split at h
    · rename_i c its n sl q
      rw [Bool.and_eq_true, Bool.and_eq_true] at h
      obtain ⟨h1, h2, h3⟩ := h
      obtain ⟨vs, hv, hr⟩ := valsB_ok xs its.toList h3
      refine ⟨rfl, fun N => .lst (vs := vs) (.inr ⟨_, its, n, q, congrArg Value.type (of_decide_eq_true h1), rfl, rfl, of_decide_eq_true h2, hv⟩) (hr N)⟩
    · cases h
  | .dct _, u, h => by cases u <;> cases h
  | .non, .bool _, h => by cases h
  | .non, .int _ _, h => by cases h
  | .non, .str _ _, h => by cases h
  | .non, .ref _, h => by cases h
  | .bl _, .none, h => by cases h
  | .bl _, .int _ _, h => by cases h
  | .bl _, .str _ _, h => by cases h
  | .bl _, .ref _, h => by cases h
  | .int _, .none, h => by cases h
  | .int _, .bool _, h => by cases h
  | .int _, .str _ _, h => by cases h
  | .int _, .ref _, h => by cases h
  | .str _, .none, h => by cases h
  | .str _, .bool _, h => by cases h
  | .str _, .int _ _, h => by cases h
  | .str _, .ref _, h => by cases h
  | .tup _, .none, h => by cases h
  | .lst _, .none, h => by cases h
theorem valsB_ok {K : PySem.W.Frag} : ∀ (xs : List Val) (us : List Value), valsB K xs us = true → ∃ vs, Vals vs us ∧ ∀ N, RVs K N vs xs
  | [], [], _ => ⟨[], .nil, fun _ => .nil⟩
  | [], _ :: _, h => by cases h
  | _ :: _, [], h => by cases h
  | x :: xs, u :: us, h => by
    have h : (valB K x u && valsB K xs us) = true := h
    rw [Bool.and_eq_true] at h
    obtain ⟨h1, h2⟩ := valB_ok x u h.1
    obtain ⟨vs, h3, h4⟩ := valsB_ok xs us h.2
    exact ⟨vOf u :: vs, .cons h1 h3, fun N => .cons (h2 N) (h4 N)⟩
end
/-- a name of the module -/
def gU (K : PySem.W.Frag) (x : Str) : Value := match PySem.W.nsIn K mainGlobals x with
  | some (some u) => u
  | _ => .none
def gB (K : PySem.W.Frag) (x : Str) (z : Val) : Bool := match PySem.W.nsIn K mainGlobals x with
  | some (some u) => valB K z u
  | _ => false
def GV (K : PySem.W.Frag) (mg : Str → Option Value) (x : Str) (z : Val) : Prop := mg x = some (gU K x) ∧ RelV (vOf (gU K x)) (gU K x) ∧ ∀ N, RV K N (vOf (gU K x)) z
theorem gB_ok {K : PySem.W.Frag} {h : Heap} {mg : Str → Option Value} (X : K.In h) (G : h.Ns mainGlobals mg) {x : Str} {z : Val} (c : gB K x z = true) : GV K mg x z := by
  unfold gB at c
  cases q : PySem.W.nsIn K mainGlobals x with
  | none => rw [q] at c; cases c
  | some r =>
    rw [q] at c
    cases r with
    | none => cases c
    | some u =>
      have e : gU K x = u := by unfold gU; rw [q]
      unfold GV
      rw [e]
      obtain ⟨h1, h2⟩ := valB_ok z u c
      exact ⟨PySem.W.mg_of X G q, h1, h2⟩

/-! ### a dict of the module, its keys texts -/
def entB (K : PySem.W.Frag) : List (Str × Val) → List DictEntry → Bool
  | [], [] => true
  | (k, z) :: t, e :: es => (match e.key with
    | .str x _ => decide (x = k)
    | _ => false) && (valB K z e.val && entB K t es)
  | _, _ => false
def dicB (K : PySem.W.Frag) (a : Addr) (tab : List (Str × Val)) : Bool := match K.lookup a with
  | some ⟨_, _, .dict es _, _⟩ => entB K tab es.toList
  | _ => false
structure KD (K : PySem.W.Frag) (w : World) (a : Addr) (tab : List (Str × Val)) : Prop where
  d : ∃ es n, KDict K w a es n
  get : ∀ z, match tab.lookup z with
    | some x => ∃ u, PySem.W.nsIn K a z = some (some u) ∧ valB K x u = true
    | none => PySem.W.nsIn K a z = some none
theorem entB_ok {K : PySem.W.Frag} : ∀ {tab : List (Str × Val)} {es : List DictEntry}, entB K tab es = true → (es.any (·.refKey) = false) ∧ ∀ z, match tab.lookup z with
    | some x => ∃ e, es.find? (·.key.isStr z) = some e ∧ valB K x e.val = true
    | none => es.find? (·.key.isStr z) = none
  | [], [], _ => ⟨rfl, fun z => rfl⟩
  | [], _ :: _, h => by cases h
  | _ :: _, [], h => by cases h
  | (k, x) :: t, e :: es, h => by
    have h : ((match e.key with
      | .str x _ => decide (x = k)
      | _ => false) && (valB K x e.val && entB K t es)) = true := h
    rw [Bool.and_eq_true, Bool.and_eq_true] at h
    obtain ⟨h1, h2, h3⟩ := h
    obtain ⟨q1, q2⟩ := entB_ok h3
    split at h1
    · rename_i y ty hy
      have hk : y = k := of_decide_eq_true h1
      subst hk
      have hr : e.refKey = false := by unfold DictEntry.refKey; rw [hy]
      refine ⟨by rw [List.any_cons, hr, q1]; rfl, fun z => ?_⟩
      have hs : e.key.isStr z = decide (y = z) := by
        rw [hy]
        show (y == z) = decide (y = z)
        rw [Bool.eq_iff_iff]; simp
      rw [List.lookup_cons, List.find?_cons, hs]
      by_cases hz : y = z
      · subst hz
        simp only [beq_self_eq_true, decide_true]
        exact ⟨e, rfl, h2⟩
      · have hz2 : (z == y) = false := by rw [beq_eq_false_iff_ne]; exact fun q => hz q.symm
        simp only [hz2, hz, decide_false]
        exact q2 z
    · cases h1
theorem kd_of {K : PySem.W.Frag} {w : World} {a : Addr} {tab : List (Str × Val)} (h : ∃ es n, KDict K w a es n) (c : dicB K a tab = true) : KD K w a tab := by
  obtain ⟨es, n, kd⟩ := h
  refine ⟨⟨es, n, kd⟩, fun z => ?_⟩
  unfold dicB at c
  rw [kd.at_] at c
  obtain ⟨h1, h2⟩ := entB_ok (show entB K tab es.toList = true from c)
  have h2 := h2 z
  unfold PySem.W.nsIn
  rw [kd.at_]
  cases hl : tab.lookup z with
  | none =>
    rw [hl] at h2
    simp only at h2 ⊢
    rw [h2, h1]
    rfl
  | some x =>
    rw [hl] at h2
    obtain ⟨e, he, hv⟩ := h2
    simp only
    rw [he]
    exact ⟨e.val, rfl, hv⟩
theorem nx_kget {tab : List (Str × Val)} (x : Val) : NX (vKGet tab x) := by unfold vKGet; split <;> first | exact nx_ofOpt | exact nx_bad
theorem nx_kin {tab : List (Str × Val)} (x : Val) : NX (vKIn tab x) := by unfold vKIn; split <;> first | exact nx_ok | exact nx_bad
theorem nx_kni {tab : List (Str × Val)} (x : Val) : NX (vKNi tab x) := by unfold vKNi; split <;> first | exact nx_ok | exact nx_bad
def rKIn (K : PySem.W.Frag) (w : World) (b : Bool) : R2 := fun x y H Q => ∃ p z es n, y = .ref p ∧ x = .str z ∧ KDict K w p es n ∧ ((∃ u, PySem.W.nsIn K p z = some (some u) ∧ Q (.bl b) H) ∨ (PySem.W.nsIn K p z = some none ∧ Q (.bl (!b)) H))
theorem op_kin {X : Cx} : OpR X (compareOp .In) (rKIn X.K X.w true) := by
  intro pins s σ H x y v u Q I rx ry h
  obtain ⟨p, z, es, n, rfl, rfl, kd, h⟩ := h
  obtain rfl : u = Value.ref p := ry
  obtain ⟨t, rfl⟩ := rx
  have hm' := PySem.W.mapOf_K (prog := X.prog) (w := X.w) I.kIn kd.at_ kd.lit
  refine wpAny_in_of (strKind_is X.prog X.w z t) kd.low hm' ?_
  rcases h with ⟨u0, e, q⟩ | ⟨e, q⟩
  · rw [PySem.W.find_K kd.at_ e]
    exact ⟨.bl true, H, I.tok _, rfl, q⟩
  · rw [PySem.W.find_K kd.at_ e]
    exact ⟨.bl false, H, I.tok _, rfl, q⟩
theorem op_kni {X : Cx} : OpR X (compareOp .NotIn) (rKIn X.K X.w false) := by
  intro pins s σ H x y v u Q I rx ry h
  obtain ⟨p, z, es, n, rfl, rfl, kd, h⟩ := h
  obtain rfl : u = Value.ref p := ry
  obtain ⟨t, rfl⟩ := rx
  have hm' := PySem.W.mapOf_K (prog := X.prog) (w := X.w) I.kIn kd.at_ kd.lit
  refine wpAny_notIn_of (strKind_is X.prog X.w z t) kd.low hm' ?_
  rcases h with ⟨u0, e, q⟩ | ⟨e, q⟩
  · rw [PySem.W.find_K kd.at_ e]
    exact ⟨.bl false, H, I.tok _, rfl, q⟩
  · rw [PySem.W.find_K kd.at_ e]
    exact ⟨.bl true, H, I.tok _, rfl, q⟩
section
variable {K : PySem.W.Frag} {w : World} {C : Cn} {a : Addr} {tab : List (Str × Val)} {tb : TE} {mb : EX}
theorem ev_kget (kd : KD K w a tab) (hb : EvE K C tb mb) : EvE K C (tOp (rIxD K w) (tC (.ref a)) tb) (e1 (vKGet tab) mb) := fun N H σ env e s Q h => by
  refine hb N H σ env e s _ (PostR.imp (PostR.bind h) fun x N1 H1 g1 h1 v rv => ?_)
  cases rv with
  | str z =>
    obtain ⟨y, hy, k⟩ := h1.val (nx_kget _)
    have hy : Res.ofOpt (tab.lookup z) = .ok y := hy
    have g := kd.get z
    cases hl : tab.lookup z with
    | none => rw [hl] at hy; cases hy
    | some x =>
      rw [hl] at hy g
      cases hy
      obtain ⟨u, hu, hv⟩ := g
      obtain ⟨r1, r2⟩ := valB_ok _ u hv
      obtain ⟨es, n, kd'⟩ := kd.d
      exact ⟨a, z, vOf u, rfl, rfl, ⟨es, n, u, kd'.at_, kd'.lit, hu, r1⟩, k N1 H1 (Gr.refl g1.nh) _ (r2 N1)⟩
  | _ => exact h1.elim
theorem ev_kin (kd : KD K w a tab) (hb : EvE K C tb mb) : EvE K C (tOp (rKIn K w true) tb (tC (.ref a))) (e1 (vKIn tab) mb) := fun N H σ env e s Q h => by
  refine hb N H σ env e s _ (PostR.imp (PostR.bind h) fun x N1 H1 g1 h1 v rv => ?_)
  cases rv with
  | str z =>
    obtain ⟨y, hy, k⟩ := h1.val (nx_kin _)
    have hy : Res.ok (Val.bl (tab.lookup z).isSome) = .ok y := hy
    have g := kd.get z
    obtain ⟨es, n, kd'⟩ := kd.d
    refine ⟨a, z, es, n, rfl, rfl, kd', ?_⟩
    cases hl : tab.lookup z with
    | none =>
      rw [hl] at hy g
      cases hy
      exact .inr ⟨g, k N1 H1 (Gr.refl g1.nh) _ (.bl _)⟩
    | some x =>
      rw [hl] at hy g
      cases hy
      obtain ⟨u, hu, hv⟩ := g
      exact .inl ⟨u, hu, k N1 H1 (Gr.refl g1.nh) _ (.bl _)⟩
  | _ => exact h1.elim
theorem ev_kni (kd : KD K w a tab) (hb : EvE K C tb mb) : EvE K C (tOp (rKIn K w false) tb (tC (.ref a))) (e1 (vKNi tab) mb) := fun N H σ env e s Q h => by
  refine hb N H σ env e s _ (PostR.imp (PostR.bind h) fun x N1 H1 g1 h1 v rv => ?_)
  cases rv with
  | str z =>
    obtain ⟨y, hy, k⟩ := h1.val (nx_kni _)
    have hy : Res.ok (Val.bl (!(tab.lookup z).isSome)) = .ok y := hy
    have g := kd.get z
    obtain ⟨es, n, kd'⟩ := kd.d
    refine ⟨a, z, es, n, rfl, rfl, kd', ?_⟩
    cases hl : tab.lookup z with
    | none =>
      rw [hl] at hy g
      cases hy
      exact .inr ⟨g, k N1 H1 (Gr.refl g1.nh) _ (.bl _)⟩
    | some x =>
      rw [hl] at hy g
      cases hy
      obtain ⟨u, hu, hv⟩ := g
      exact .inl ⟨u, hu, k N1 H1 (Gr.refl g1.nh) _ (.bl _)⟩
  | _ => exact h1.elim
end
section
variable {X : Cx} {C : Cn} {a : Expr} {ta : TE} {ma : EX} {pos p : Pos} {tab : List (Str × Val)} {x : Str}
/-- a constant of the module -/
theorem se_gv {z : Val} (g : GV X.K X.mg x z) (hg : Gl X x := by rfl) (hd : (x == ("__debug__" : Str)) = false := by decide) : SE X C (.Name x pos) (tC (vOf (gU X.K x))) (eC z) := ⟨pe_glob hg g.1 g.2.1 hd, ev_c g.2.2⟩
/-- D[a], a in D, a not in D of a dict D of the module -/
theorem se_kget (hm : X.mg x = some (.ref (He.ga X.K x))) (kd : KD X.K X.w (He.ga X.K x) tab) (ha : SE X C a ta ma) (hg : Gl X x := by rfl) (hd : (x == ("__debug__" : Str)) = false := by decide) (hs : PlainIx a := by intro _ _; rfl) :
    SE X C (.Subscript (.Name x p) a pos) (tOp (rIxD X.K X.w) (tC (.ref (He.ga X.K x))) ta) (e1 (vKGet tab) ma) := ⟨pe_ix ix_kdict (pe_glob hg hm rfl hd) ha.pe hs, ev_kget kd ha.ev⟩
theorem se_kin (hm : X.mg x = some (.ref (He.ga X.K x))) (kd : KD X.K X.w (He.ga X.K x) tab) (ha : SE X C a ta ma) (hg : Gl X x := by rfl) (hd : (x == ("__debug__" : Str)) = false := by decide) (hmk : behindInMarks .In (.Name x p) = false := by rfl) :
    SE X C (.Compare a [.In] [.Name x p] pos) (tOp (rKIn X.K X.w true) ta (tC (.ref (He.ga X.K x)))) (e1 (vKIn tab) ma) := ⟨pe_cmpR op_kin ha.pe (pe_glob hg hm rfl hd) hmk, ev_kin kd ha.ev⟩
theorem se_kni (hm : X.mg x = some (.ref (He.ga X.K x))) (kd : KD X.K X.w (He.ga X.K x) tab) (ha : SE X C a ta ma) (hg : Gl X x := by rfl) (hd : (x == ("__debug__" : Str)) = false := by decide) (hmk : behindInMarks .NotIn (.Name x p) = false := by rfl) :
    SE X C (.Compare a [.NotIn] [.Name x p] pos) (tOp (rKIn X.K X.w false) ta (tC (.ref (He.ga X.K x)))) (e1 (vKNi tab) ma) := ⟨pe_cmpR op_kni ha.pe (pe_glob hg hm rfl hd) hmk, ev_kni kd ha.ev⟩
theorem sb_kin (hm : X.mg x = some (.ref (He.ga X.K x))) (kd : KD X.K X.w (He.ga X.K x) tab) (ha : SE X C a ta ma) (hg : Gl X x := by rfl) (hd : (x == ("__debug__" : Str)) = false := by decide) (hmk : behindInMarks .In (.Name x p) = false := by rfl) :
    SB X C (.Compare a [.In] [.Name x p] pos) (tTest (tOp (rKIn X.K X.w true) ta (tC (.ref (He.ga X.K x))))) (bVal (e1 (vKIn tab) ma)) := ⟨pt_cmpR op_kin ha.pe (pe_glob hg hm rfl hd) hmk, eb_test (ev_kin kd ha.ev)⟩
theorem sb_kni (hm : X.mg x = some (.ref (He.ga X.K x))) (kd : KD X.K X.w (He.ga X.K x) tab) (ha : SE X C a ta ma) (hg : Gl X x := by rfl) (hd : (x == ("__debug__" : Str)) = false := by decide) (hmk : behindInMarks .NotIn (.Name x p) = false := by rfl) :
    SB X C (.Compare a [.NotIn] [.Name x p] pos) (tTest (tOp (rKIn X.K X.w false) ta (tC (.ref (He.ga X.K x))))) (bVal (e1 (vKNi tab) ma)) := ⟨pt_cmpR op_kni ha.pe (pe_glob hg hm rfl hd) hmk, eb_test (ev_kni kd ha.ev)⟩
end
end Vm

/-! Reasoning about the value machine's texts. -/
noncomputable section
namespace Vm
def Ok0 (r : Flow) (N : Env → Prop) (R : Val → Prop) (B T : Env → Prop) : Prop := match r with
  | .next e => N e
  | .ret x => R x
  | .brk e => B e
  | .cont e => T e
  | _ => False
/-- how a statement ends: N onward, R a value returned, B behind a break, T behind a continue -/
structure Ok (r : Flow) (N : Env → Prop) (R : Val → Prop) (B : Env → Prop := fun _ => False) (T : Env → Prop := fun _ => False) : Prop where
  of : Ok0 r N R B T
theorem Ok_eq (r : Flow) (N R B T) : Ok r N R B T = Ok0 r N R B T := propext ⟨fun h => h.of, fun h => ⟨h⟩⟩
theorem Ok_next (e : Env) (N R B T) : Ok (.next e) N R B T = N e := Ok_eq _ _ _ _ _
theorem Ok_ret (e : Val) (N R B T) : Ok (.ret e) N R B T = R e := Ok_eq _ _ _ _ _
theorem Ok_brk (e : Env) (N R B T) : Ok (.brk e) N R B T = B e := Ok_eq _ _ _ _ _
theorem Ok_cont (e : Env) (N R B T) : Ok (.cont e) N R B T = T e := Ok_eq _ _ _ _ _
theorem Ok_bind (r : Flow) (f : Env → Flow) (N R B T) : Ok (r.bind f) N R B T = Ok r (fun e => Ok (f e) N R B T) R B T := by
  cases r with
  | next e => rw [Ok_next]; rfl
  | _ => rw [Ok_eq, Ok_eq]; rfl
theorem Ok.imp {r : Flow} {N N' : Env → Prop} {R R' : Val → Prop} {B B' T T' : Env → Prop} (h : Ok r N R B T) (h1 : ∀ e, N e → N' e) (h2 : ∀ x, R x → R' x) (h3 : ∀ e, B e → B' e) (h4 : ∀ e, T e → T' e) : Ok r N' R' B' T' := by
  have h := h.of
  refine ⟨?_⟩
  cases r <;> first | exact h1 _ h | exact h2 _ h | exact h3 _ h | exact h4 _ h | exact h
theorem forL_ok {put : Put} {body : ST} {N R B T} : ∀ (xs : List Val) (I : Nat → Env → Prop) (env : Env), I 0 env →
    (∀ i (h : i < xs.length) env, I i env → ∃ e, put xs[i] env = .ok e ∧ Ok (body e) (I (i + 1)) R N (I (i + 1))) → (∀ env, I xs.length env → N env) → Ok (forL put body xs env) N R B T
  | [], I, env, h0, _, hN => ⟨hN env h0⟩
  | x :: xs, I, env, h0, hs, hN => by
    obtain ⟨e, he, hb⟩ := hs 0 (by simp) env h0
    have he : put x env = .ok e := he
    unfold forL
    rw [he]
    simp only [Res.nx_ok, Res.flow_ok]
    have tl : ∀ e', I 1 e' → Ok (forL put body xs e') N R B T := fun e' h' =>
      forL_ok xs (fun i => I (i + 1)) e' h' (fun i h env hi => hs (i + 1) (by simpa using h) env hi) fun env h => hN env h
    have hb := hb.of
    cases hq : body e with
    | next e' => rw [hq] at hb; exact tl e' hb
    | cont e' => rw [hq] at hb; exact tl e' hb
    | brk e' => rw [hq] at hb; exact ⟨hb⟩
    | ret v => rw [hq] at hb; exact ⟨hb⟩
    | exc q e' => rw [hq] at hb; exact ⟨hb⟩
    | bad => rw [hq] at hb; exact ⟨hb⟩
theorem whileL_ok {t : EB} {body : ST} {N R B T} (I : Nat → Env → Prop)
    (hs : ∀ k env, I k env → ∃ b, t env = .ok b ∧ (b = true → Ok (body env) (fun e => ∃ k', k' < k ∧ I k' e) R N (fun e => ∃ k', k' < k ∧ I k' e)) ∧ (b = false → N env)) :
    ∀ (n k : Nat) (env : Env), k < n → I k env → Ok (whileL t body n env) N R B T
  | 0, k, env, h, _ => by omega
  | n + 1, k, env, h, hi => by
    obtain ⟨b, hb, h1, h2⟩ := hs k env hi
    unfold whileL
    rw [hb]
    simp only [Res.flow_ok]
    cases b with
    | false => exact ⟨h2 rfl⟩
    | true =>
      have hb := (h1 rfl).of
      have tl : ∀ e, (∃ k', k' < k ∧ I k' e) → Ok (whileL t body n e) N R B T := fun e ⟨k', hk, hi'⟩ => whileL_ok I hs n k' e (by omega) hi'
      simp only [cond_true]
      cases hq : body env with
      | next e' => rw [hq] at hb; exact tl e' hb
      | cont e' => rw [hq] at hb; exact tl e' hb
      | brk e' => rw [hq] at hb; exact ⟨hb⟩
      | ret v => rw [hq] at hb; exact ⟨hb⟩
      | exc q e' => rw [hq] at hb; exact ⟨hb⟩
      | bad => rw [hq] at hb; exact ⟨hb⟩
theorem Ok_while {n : Nat} {t : EB} {body : ST} {env : Env} {N R B T} (h : Ok (whileL t body n env) N R B T) : Ok (sWhile n t body env) N R B T := h
theorem defn_ret {k n : Nat} {m : ST} {xs : List Val} {y : Val} (hk : xs.length = k) (h : Ok (m (startE n xs)) (fun _ => y = .non) (fun x => x = y)) : defn k n m xs = .ret y := by
  have h := h.of
  unfold defn
  rw [if_pos hk]
  cases hm : m (startE n xs) with
  | next e => rw [hm] at h; exact congrArg DR.ret (show y = .non from h).symm
  | ret x => rw [hm] at h; exact congrArg DR.ret h
  | brk e => rw [hm] at h; exact h.elim
  | cont e => rw [hm] at h; exact h.elim
  | exc q e => rw [hm] at h; exact h.elim
  | bad => rw [hm] at h; exact h.elim
theorem defn_some {k n : Nat} {m : ST} {xs : List Val} {P : Val → Prop} (hk : xs.length = k) (h : Ok (m (startE n xs)) (fun _ => P .non) P) : ∃ y, defn k n m xs = .ret y ∧ P y := by
  have h := h.of
  unfold defn
  rw [if_pos hk]
  cases hm : m (startE n xs) with
  | next e => rw [hm] at h; exact ⟨_, rfl, h⟩
  | ret x => rw [hm] at h; exact ⟨_, rfl, h⟩
  | brk e => rw [hm] at h; exact h.elim
  | cont e => rw [hm] at h; exact h.elim
  | exc q e => rw [hm] at h; exact h.elim
  | bad => rw [hm] at h; exact h.elim

/-! ### rewriting -/
section
variable {α β : Type}
theorem Ok_cond (c : Bool) (a b : Flow) (N R B T) : Ok (bif c then a else b) N R B T = ((c = true → Ok a N R B T) ∧ (c = false → Ok b N R B T)) := by cases c <;> simp
theorem Ok_ite (c : Prop) [Decidable c] (a : Flow) (N R B T) : Ok (if c then a else .bad) N R B T = (c ∧ Ok a N R B T) := by
  by_cases h : c
  · simp [h]
  · rw [if_neg h, Ok_eq]; simp [h, Ok0]
theorem flow_ite (c : Prop) [Decidable c] (r : Res α) (e : Env) (f : α → Flow) : (if c then r else .bad).flow e f = if c then r.flow e f else .bad := by split <;> rfl
theorem bind_ite (c : Prop) [Decidable c] (r : Res α) (f : α → Res β) : (if c then r else .bad).bind f = if c then r.bind f else .bad := by split <;> rfl
theorem nx_ite' (c : Prop) [Decidable c] (r : Res α) : (if c then r else .bad).nx = if c then r.nx else .bad := by split <;> rfl
theorem flow_cond (c : Bool) (r s : Res α) (e : Env) (f : α → Flow) : (bif c then r else s).flow e f = bif c then r.flow e f else s.flow e f := by cases c <;> rfl
theorem bind_cond (c : Bool) (r s : Res α) (f : α → Res β) : (bif c then r else s).bind f = bif c then r.bind f else s.bind f := by cases c <;> rfl
theorem flow_bind (r : Res α) (g : α → Res β) (e : Env) (f : β → Flow) : (r.bind g).flow e f = r.flow e fun x => (g x).flow e f := by cases r <;> rfl
theorem bind_bind {γ : Type} (r : Res α) (g : α → Res β) (f : β → Res γ) : (r.bind g).bind f = r.bind fun x => (g x).bind f := by cases r <;> rfl
theorem cond_andV (x y : Bool) : (bif x then Res.ok (Val.bl y) else Res.ok (Val.bl false)) = Res.ok (Val.bl (x && y)) := by cases x <;> rfl
theorem cond_orV (x y : Bool) : (bif x then Res.ok (Val.bl true) else Res.ok (Val.bl y)) = Res.ok (Val.bl (x || y)) := by cases x <;> rfl
theorem cond_and (x y : Bool) : (bif x then Res.ok y else Res.ok false) = Res.ok (x && y) := by cases x <;> rfl
theorem cond_or (x y : Bool) : (bif x then Res.ok true else Res.ok y) = Res.ok (x || y) := by cases x <;> rfl
theorem atI_nat (xs : List α) (k : Nat) : atI xs (k : Int) = xs[k]? := by
  unfold atI ixNat
  simp only [Int.natCast_nonneg, if_true, Int.ofNat_lt, Int.toNat_natCast]
  split
  · rfl
  · rename_i h; simp; omega
theorem atI_0 (xs : List α) : atI xs 0 = xs[0]? := atI_nat xs 0
theorem atI_1 (xs : List α) : atI xs 1 = xs[1]? := atI_nat xs 1
theorem atI_lit (xs : List α) (n : Nat) : atI xs (no_index (OfNat.ofNat n : Int)) = xs[n]? := atI_nat xs n
theorem atI_m1 (xs : List α) (h : xs ≠ []) : atI xs (-1) = some (xs.getLast h) := by
  have hl : 0 < xs.length := List.length_pos_iff.mpr h
  unfold atI ixNat
  rw [if_neg (by omega), if_pos (by omega)]
  show xs[((-1 : Int) + xs.length).toNat]? = _
  rw [List.getElem?_eq_getElem (by omega), List.getLast_eq_getElem]
  congr 2
  omega
mutual
theorem eqv_refl : ∀ x : Val, x.isData = true → eqv x x = true
  | .non, _ => rfl
  | .bl b, _ => by cases b <;> rfl
  | .int i, _ => by show (i == i) = true; simp
  | .str s, _ => by show (s == s) = true; simp
  | .tup xs, h => eqvs_refl xs h
  | .lst xs, h => eqvs_refl xs h
  | .dct _, h => by cases h
theorem eqvs_refl : ∀ xs : List Val, Val.isDatas xs = true → eqvs xs xs = true
  | [], _ => rfl
  | x :: xs, h => by
    have h : (x.isData && Val.isDatas xs) = true := h
    rw [Bool.and_eq_true] at h
    show (eqv x x && eqvs xs xs) = true
    rw [eqv_refl x h.1, eqvs_refl xs h.2]; rfl
end
theorem eqR_refl (x : Val) (h : x.isData = true) (hd : x.depth ≤ 64) : eqR x x = .ok true := by
  unfold eqR
  rw [eqv_refl x h]
  split
  · rfl
  · rw [if_pos (by simp [h, hd])]
theorem datas_map {f : β → Val} : ∀ xs : List β, (∀ x ∈ xs, (f x).isData = true) → Val.isDatas (xs.map f) = true
  | [], _ => rfl
  | x :: xs, h => by
    show ((f x).isData && Val.isDatas (xs.map f)) = true
    rw [h x List.mem_cons_self, datas_map xs fun y hy => h y (List.mem_cons_of_mem _ hy)]; rfl
theorem depths_map {f : β → Val} {n : Nat} : ∀ xs : List β, (∀ x ∈ xs, (f x).depth ≤ n) → Val.depths (xs.map f) ≤ n
  | [], _ => Nat.zero_le _
  | x :: xs, h => Nat.max_le.mpr ⟨h x List.mem_cons_self, depths_map xs fun y hy => h y (List.mem_cons_of_mem _ hy)⟩
theorem cut_map (f : α → β) (xs : List α) (lo hi : Option Int) : cut (xs.map f) lo hi = (cut xs lo hi).map f := by
  unfold cut
  rw [List.length_map, List.map_take, List.map_drop]
theorem cut_len (xs : List α) (lo hi : Option Int) : (cut xs lo hi).length ≤ xs.length := by
  unfold cut
  rw [List.length_take, List.length_drop]
  omega
theorem ofOpt_eq {α : Type} {o : Option α} {a : α} (h : o = some a) : Res.ofOpt o = .ok a := by rw [h]; rfl
theorem Ok_ofOpt (o : Option α) (e : Env) (f : α → Flow) (N R B T) : Ok ((Res.ofOpt o).flow e f) N R B T = ∃ a, o = some a ∧ Ok (f a) N R B T := by cases o <;> simp [Res.ofOpt, Res.flow, Ok_eq, Ok0]
theorem ofOpt_map (f : α → β) (o : Option α) : Res.ofOpt (o.map f) = (Res.ofOpt o).bind fun x => .ok (f x) := by cases o <;> rfl
theorem eqR_int (i j : Int) : eqR (.int i) (.int j) = .ok (i == j) := rfl
theorem eqR_bl (i j : Bool) : eqR (.bl i) (.bl j) = .ok (i == j) := rfl
theorem eqR_str (i j : Str) : eqR (.str i) (.str j) = .ok (i == j) := rfl
theorem max2 (i j : Int) : (if j > i then j else i) = max i j := by rw [Int.max_def]; split <;> split <;> omega
theorem min2 (i j : Int) : (if j < i then j else i) = min i j := by rw [Int.min_def]; split <;> split <;> omega
theorem vMax2 (i j : Int) : vMax [.int i, .int j] = .ok (.int (max i j)) := by
  show Res.ok (Val.int (if j > i then j else i)) = _
  rw [max2]
theorem vMax3 (i j k : Int) : vMax [.int i, .int j, .int k] = .ok (.int (max (max i j) k)) := by
  show Res.ok (Val.int (if k > (if j > i then j else i) then k else (if j > i then j else i))) = _
  rw [max2, max2]
theorem vMin2 (i j : Int) : vMin [.int i, .int j] = .ok (.int (min i j)) := by
  show Res.ok (Val.int (if j < i then j else i)) = _
  rw [min2]
theorem vDiv_int (i j : Int) : vDiv (.int i) (.int j) = if divOk j = true then .ok (.int (i / j)) else .bad := rfl
theorem vMod_int (i j : Int) : vMod (.int i) (.int j) = if 0 < j then .ok (.int (i % j)) else .bad := rfl
theorem vMul_int (i j : Int) : vMul (.int i) (.int j) = if mulOk i j = true then .ok (.int (i * j)) else .bad := rfl
theorem vPow_int (i j : Int) : vPow (.int i) (.int j) = if powOk i j = true then .ok (.int (i ^ j.toNat)) else .bad := rfl
theorem vPow_lit (i j : Int) (h1 : 0 ≤ j) (h2 : j ≤ 1000000) (h3 : i.natAbs < 18446744073709551616) : vPow (.int i) (.int j) = .ok (.int (i ^ j.toNat)) := if_pos (big_iff.mpr ⟨h1, h2, h3⟩)
theorem vPow18 : vPow (.int 10) (.int 18) = .ok (.int 1000000000000000000) := vPow_lit 10 18 (by omega) (by omega) (by decide)
theorem vPow12 : vPow (.int 10) (.int 12) = .ok (.int 1000000000000) := vPow_lit 10 12 (by omega) (by omega) (by decide)
theorem vPow11 : vPow (.int 10) (.int 11) = .ok (.int 100000000000) := vPow_lit 10 11 (by omega) (by omega) (by decide)
theorem vPow9 : vPow (.int 10) (.int 9) = .ok (.int 1000000000) := vPow_lit 10 9 (by omega) (by omega) (by decide)
theorem vPow6 : vPow (.int 10) (.int 6) = .ok (.int 1000000) := vPow_lit 10 6 (by omega) (by omega) (by decide)
theorem noLst_int (i : Int) : (Val.int i).noLst = true := rfl
theorem noLst_bl (i : Bool) : (Val.bl i).noLst = true := rfl
theorem noLst_str (i : Str) : (Val.str i).noLst = true := rfl
theorem noLst_non : Val.non.noLst = true := rfl
theorem noLst_tup (xs : List Val) : (Val.tup xs).noLst = Val.noLsts xs := rfl
theorem noLsts_nil : Val.noLsts [] = true := rfl
theorem noLsts_cons (x : Val) (xs : List Val) : Val.noLsts (x :: xs) = (x.noLst && Val.noLsts xs) := rfl
theorem noLsts_ints : ∀ ns : List Int, Val.noLsts (ns.map .int) = true
  | [] => rfl
  | _ :: ns => noLsts_ints ns
theorem mulOk_r (i j : Int) (h : -18446744073709551616 < j ∧ j < 18446744073709551616) : mulOk i j = true := big_iff.mpr (.inr h)
theorem mulOk_l (i j : Int) (h : -18446744073709551616 < i ∧ i < 18446744073709551616) : mulOk i j = true := big_iff.mpr (.inl h)
theorem divOk_iff {j : Int} : divOk j = true ↔ 0 < j ∧ j < 1267650600228229401496703205376 := big_iff
end
/-- what follows -/
structure Then (b : ST) (N : Env → Prop) (R : Val → Prop) (B T : Env → Prop) (e : Env) : Prop where
  mk ::
  of : Ok (b e) N R B T
theorem Ok_seq (a b : ST) (env : Env) (N R B T) : Ok (sSeq a b env) N R B T = Ok (a env) (Then b N R B T) R B T := by
  show Ok ((a env).bind b) N R B T = _
  rw [Ok_bind]
  exact congrArg (fun z => Ok (a env) z R B T) (funext fun e => propext ⟨fun h => ⟨h⟩, fun h => h.of⟩)
theorem Ok_for {it : EI} {put : Put} {body : ST} {env : Env} {xs : List Val} {N R B T} (hi : it (hide env) = .ok xs) (h : Ok (forL put body xs env) N R B T) : Ok (sFor it put body env) N R B T := by
  unfold sFor
  rw [hi]
  exact h
theorem vAdd_int (i j : Int) : vAdd (.int i) (.int j) = .ok (.int (i + j)) := rfl
theorem vAdd_lst (xs ys : List Val) : vAdd (.lst xs) (.lst ys) = if xs.length + ys.length ≤ 16777216 then .ok (.lst (xs ++ ys)) else .bad := rfl
theorem vAdd_tup (xs ys : List Val) : vAdd (.tup xs) (.tup ys) = if xs.length + ys.length ≤ 16777216 ∧ xs.isEmpty = false then .ok (.tup (xs ++ ys)) else .bad := rfl
theorem vLen_lst (xs : List Val) : vLen [.lst xs] = .ok (.int xs.length) := rfl
theorem vLen_tup (xs : List Val) : vLen [.tup xs] = .ok (.int xs.length) := rfl
theorem vIx_lst (xs : List Val) (i : Int) : vIx (.lst xs) (.int i) = Res.ofOpt (atI xs i) := rfl
theorem vIx_tup (xs : List Val) (i : Int) : vIx (.tup xs) (.int i) = Res.ofOpt (atI xs i) := rfl
theorem vIx_dct (kvs : List (Key × Val)) (k : Val) : vIx (.dct kvs) k = Res.ofOpt ((keyOfV k).bind (getV kvs)) := rfl
/-! texts as lists of numbers -/
def S (l : List Nat) : Str := ⟨l.toArray⟩
theorem S_add (a b : List Nat) : S a ++ S b = S (a ++ b) := by
  show PySem.Str.append (S a) (S b) = _
  unfold S PySem.Str.append
  simp
theorem S_len (a : List Nat) : (S a).length = a.length := by unfold S PySem.Str.length; simp
theorem S_inj {a b : List Nat} : S a = S b ↔ a = b := by
  unfold S
  constructor
  · intro h
    injection h with h
    have := congrArg Array.toList h
    simpa using this
  · intro h; rw [h]
theorem S_beq (a b : List Nat) : (S a == S b) = decide (a = b) := by rw [Bool.eq_iff_iff]; simp [S_inj]
theorem vIx_S {l : List Nat} {i : Int} {c : Nat} (hl : l.length ≤ 16777216) (h : atI l i = some c) : vIx (.str (S l)) (.int i) = .ok (.str (S [c])) := by
  show (if (S l).length ≤ 16777216 then Res.ofOpt ((atI (S l).cps.toList i).map fun c => Val.str ⟨#[c]⟩) else .bad) = _
  rw [S_len, if_pos hl, show (S l).cps.toList = l from rfl, h]
  rfl
theorem vLen_S {l : List Nat} (hl : l.length ≤ 16777216) : vLen [.str (S l)] = .ok (.int l.length) := by
  show (if (S l).length ≤ 16777216 then Res.ok (Val.int ((S l).length : Nat)) else .bad) = _
  rw [S_len, if_pos hl]
theorem vAdd_S {a b : List Nat} (hl : a.length + b.length ≤ 16777216) : vAdd (.str (S a)) (.str (S b)) = .ok (.str (S (a ++ b))) := by
  show (if (S a).length + (S b).length ≤ 16777216 then Res.ok (Val.str (S a ++ S b)) else .bad) = _
  rw [S_len, S_len, if_pos hl, S_add]
theorem vEq_S (a b : List Nat) : vEq (.str (S a)) (.str (S b)) = .ok (.bl (decide (a = b))) := by
  have e : (S a == S b) = decide (a = b) := by rw [Bool.eq_iff_iff]; simp [S_inj]
  show Res.ok (Val.bl (S a == S b)) = _
  rw [e]
theorem vNe_S (a b : List Nat) : vNe (.str (S a)) (.str (S b)) = .ok (.bl (!decide (a = b))) := by
  have e : (S a == S b) = decide (a = b) := by rw [Bool.eq_iff_iff]; simp [S_inj]
  show Res.ok (Val.bl (!(S a == S b))) = _
  rw [e]
theorem vIn_S (c : Nat) (b : List Nat) : vIn (.str (S [c])) (.str (S b)) = .ok (.bl (decide (c ∈ b))) := rfl
theorem vNotIn_S (c : Nat) (b : List Nat) : vNotIn (.str (S [c])) (.str (S b)) = .ok (.bl (!decide (c ∈ b))) := rfl
theorem cut_nat {α : Type} (l : List α) (s e : Nat) (h : s ≤ e) (he : e ≤ l.length) : cut l (some (s : Int)) (some (e : Int)) = (l.drop s).take (e - s) := by
  unfold cut cutAt
  simp only [Int.toNat_natCast, show ¬ ((s : Int) < 0) by omega, show ¬ ((e : Int) < 0) by omega, if_false]
  rw [Nat.min_eq_left (show s ≤ l.length by omega), Nat.min_eq_left he]
theorem vCut_S {l : List Nat} (lo hi : Option Int) (hl : l.length ≤ 16777216) : vCut (.str (S l)) lo hi = .ok (.str (S (cut l lo hi))) := by
  show (if (S l).length ≤ 16777216 then Res.ok (Val.str ⟨(cut (S l).cps.toList lo hi).toArray⟩) else .bad) = _
  rw [S_len, if_pos hl]
  rfl
local macro_rules | `(tactic| simp! [$ts,*]) => `(tactic| simp only [Ok_seq, sSet, sSetN, sOwn, sOwnN, sAppend, sAppendN, sFreeze, sForget, sIf, sRet, sRetN, sNext, sPut, sDrop, sAug, sOn, sItem, sItemN, itemPut, sBreak, sCont, hide, Slot.hide, eVar, eC, e1, e2, eArgs, eAnd, eOr, eNot, eIf, eChain, eCall, eCut, partOf, aNil, aCons, asBl, bVal, bTruth, bAnd, bOr, bNot, bYes, truth, vAdd_int, vAdd_lst, vAdd_tup, vSub, vMul_int, vDiv_int, vMod_int, vPow18, vPow12, vPow11, vPow9, vPow6, vNeg, vLt, vLe, vGt, vGe, vEq, vNe, eqR_int, eqR_bl, eqR_str, vIsi, vTup, vLst, vLen_lst, vLen_tup, vInt, vIs, vIsNot, vIx_lst, vIx_tup, vIx_dct, vListOf, vTupOf, vIpAdd, vMax2, vMax3, vMin2, Val.ty, Ty.sub, noLst_int, noLst_bl, noLst_str, noLst_non, noLst_tup, noLsts_nil, noLsts_cons, noLsts_ints, pName, pTup, pTupL, putAll, iSeq, itemsOf, iRange1, iRange2, DR.res, Res.ofOpt_some, Res.ofOpt_none, Res.bind_ok, Res.bind_exc, Res.bind_bad, Res.nx_ok, Res.flow_ok, Res.flow_bad, Flow.bind_next, Flow.bind_ret, Flow.bind_brk, Flow.bind_cont, Flow.bind_bad, Ok_next, Ok_ret, Ok_brk, Ok_cont, Ok_bind, Ok_cond, Ok_ite, Ok_ofOpt, flow_ite, bind_ite, nx_ite', flow_cond, bind_cond, cond_andV, cond_orV, cond_and, cond_or, atI_nat, atI_0, atI_1, atI_lit, startE, List.map_cons, List.map_nil, List.length_cons, List.length_nil, List.getElem?_cons_zero, List.getElem?_cons_succ, List.set_cons_zero, List.set_cons_succ, List.set_nil, List.replicate, List.append_nil, List.cons_append, List.nil_append, Nat.sub_self, Nat.reduceAdd, Nat.reduceSub, Nat.reduceLT, Nat.reduceLeDiff, Nat.reduceEqDiff, Int.reduceLE, Int.reduceLT, Int.reduceToNat, Int.reducePow, Int.reduceMul, Int.reduceAdd, Int.reduceSub, Int.reduceNeg, Int.cast_ofNat_Int, if_true, if_false, ↓reduceIte, reduceCtorEq, beq_self_eq_true, and_true, true_and, decide_eq_true_eq, decide_eq_false_iff_not, Bool.not_eq_true', Bool.not_eq_false', Bool.and_true, Bool.true_and, Bool.or_true, Bool.and_false, Bool.or_false, Bool.false_or, Bool.true_or, Bool.false_and, Bool.not_true, Bool.not_false, beq_iff_eq, forall_const, false_implies, Option.map_some, decide_true, decide_false, cond_true, cond_false, $ts,*])


/-! ### parts of a cell (the laws' own helper, alike in all) -/
def m_parts_ca_1 : ST := (sSet 3 (e2 vDiv (eVar 3) (e2 vIx (eVar 1) (eVar 4))))
def m_parts_cae_2 : ST := (sAppend 2 (e2 vMod (eArgs vInt (aCons (eVar 5) aNil)) (e2 vIx (eVar 1) (eVar 4))))
def m_parts_cae_1 : ST := (sSeq (sSet 5 (e2 vMod (eArgs vInt (aCons (e2 vAdd (e2 vAdd (e2 vMul (eVar 5) (eVar 5)) (e2 vMul (eC (.int 16807)) (eVar 4))) (eC (.int 5))) aNil)) (eC (.int 998244353))))
    m_parts_cae_2)
def m_parts_c_L : ST := (sIf (bVal (e2 vGe (eVar 3) (eC (.int 0)))) (sSeq (sAppend 2 (e2 vMod (eArgs vInt (aCons (eVar 3) aNil)) (e2 vIx (eVar 1) (eVar 4))))
    m_parts_ca_1) (sSeq (sSet 5 (e2 vMod (eArgs vInt (aCons (e2 vAdd (e2 vAdd (e2 vMul (eVar 0) (eC (.int 48271))) (e2 vMul (eVar 4) (eC (.int 69621)))) (eC (.int 11))) aNil)) (eC (.int 2147483647))))
    m_parts_cae_1))
def m_parts_c_F : ST := (sFor (iRange1 (eArgs vLen (aCons (eVar 1) aNil))) (pName 4) m_parts_c_L)
def m_parts_4 : ST := (sRet (eVar 2))
def m_parts_3 : ST := (sSeq (sFreeze 2) m_parts_4)
def m_parts_2 : ST := (sSeq m_parts_c_F
    m_parts_3)
def m_parts_1 : ST := (sSeq (sSet 3 (e2 vSub (eVar 0) (e2 vPow (eC (.int 10)) (eC (.int 18)))))
    m_parts_2)
def m_parts : ST := (sSeq (sOwn 2 (eArgs vLst aNil))
    m_parts_1)
/-- each part lies under its size -/
def Parts (ps sizes : List Int) : Prop := ps.length = sizes.length ∧ ∀ i (h : i < ps.length) (h' : i < sizes.length), 0 ≤ ps[i] ∧ ps[i] < sizes[i]
theorem map_get? {β : Type} (f : Int → β) (xs : List Int) (i : Nat) (h : i < xs.length) : (xs.map f)[i]? = some (f xs[i]) := by
  rw [List.getElem?_map, List.getElem?_eq_getElem h]; rfl
theorem smallI_nat {n : Nat} (h : n ≤ 16777216) : smallI (n : Int) = true := by
  exact big_iff.mpr ⟨by omega, by omega⟩
theorem range1_ok {a : EX} {env : Env} {n : Nat} (ha : a env = .ok (.int n)) (h : n ≤ 16777216) : iRange1 a env = .ok (rangeL 0 n) := by
  unfold iRange1
  rw [ha]
  simp only [Res.bind_ok, smallI_nat h, if_true, Int.toNat_natCast]
theorem range_get (lo : Int) (n i : Nat) (h : i < (rangeL lo n).length) : (rangeL lo n)[i] = .int (lo + i) := by simp [rangeL]
theorem range_len (lo : Int) (n : Nat) : (rangeL lo n).length = n := by simp [rangeL]
theorem Parts.nil : Parts [] [] := ⟨rfl, fun i h => by cases h⟩
theorem parts_ok (c : Int) (sizes : List Int) (hs : ∀ n ∈ sizes, 0 < n ∧ n < 18446744073709551616) (hl : sizes.length ≤ 100) : ∃ y, defn 2 6 m_parts [.int c, .lst (sizes.map .int)] = .ret y ∧ ∃ ps, y = .lst (ps.map .int) ∧ Parts ps sizes := by
  refine defn_some rfl ?_
  unfold m_parts
  simp! []
  refine Then.mk ?_; unfold m_parts_1; simp! []
  refine Then.mk ?_; unfold m_parts_2; simp! []
  unfold m_parts_c_F
  refine Ok_for (xs := rangeL 0 sizes.length) ?_ ?_
  · exact range1_ok (by simp! [List.length_map]) (by omega)
  refine forL_ok _ (fun i env => ∃ (r : Int) (ps : List Int) (s4 s5 : Slot), env = [.sh (.int c), .sh (.lst (sizes.map .int)), .oL (ps.map .int), .sh (.int r), s4, s5] ∧ i ≤ sizes.length ∧ Parts ps (sizes.take i)) _ ⟨_, [], .un, .un, rfl, Nat.zero_le _, Parts.nil⟩ ?_ ?_
  · rintro i hi env ⟨r, ps, s4, s5, rfl, hi', hp⟩
    rw [range_len] at hi
    rw [range_get, Int.zero_add]
    refine ⟨[.sh (.int c), .sh (.lst (sizes.map .int)), .oL (ps.map .int), .sh (.int r), .sh (.int i), s5], rfl, ?_⟩
    have hn := hs sizes[i] (List.getElem_mem hi)
    have hget : (sizes.map Val.int)[i]? = some (.int sizes[i]) := map_get? _ _ _ hi
    have hlen : ps.length = i := by rw [hp.1, List.length_take]; omega
    have hpow : sizes[i] < 1267650600228229401496703205376 := by have := hn.2; omega
    have step : ∀ (x r' : Int) (s4 s5 : Slot), 0 ≤ x → x < sizes[i] → ∃ (r : Int) (ps' : List Int) (s4' s5' : Slot), [Slot.sh (.int c), .sh (.lst (sizes.map .int)), .oL (ps.map .int ++ [.int x]), .sh (.int r'), s4, s5] = [.sh (.int c), .sh (.lst (sizes.map .int)), .oL (ps'.map .int), .sh (.int r), s4', s5'] ∧ i + 1 ≤ sizes.length ∧ Parts ps' (sizes.take (i + 1)) := by
      intro x r' s4 s5 h1 h2
      refine ⟨r', ps ++ [x], s4, s5, by simp, hi, ?_⟩
      refine ⟨by simp [hlen]; omega, fun j h h' => ?_⟩
      by_cases hj : j < i
      · have := hp.2 j (by omega) (by rw [List.length_take]; omega)
        simp only [List.getElem_append_left (show j < ps.length by omega), List.getElem_take] at this ⊢
        exact this
      · have hj' : j = i := by simp at h; omega
        subst hj'
        simp [hlen]
        exact ⟨h1, h2⟩
    unfold m_parts_c_L
    simp! [hget, List.length_map, hlen]
    refine ⟨fun h0 => ⟨hn.1, by omega, ?_⟩, fun h0 => ⟨mulOk_r _ _ (by omega), mulOk_r _ _ (by omega), ?_⟩⟩
    · refine Then.mk ?_; unfold m_parts_ca_1; simp! [hget]
      exact ⟨divOk_iff.mpr ⟨hn.1, hpow⟩, step _ _ _ _ (Int.emod_nonneg _ (by omega)) (Int.emod_lt_of_pos _ hn.1)⟩
    · refine Then.mk ?_; unfold m_parts_cae_1; simp! [hget]
      refine ⟨mulOk_r _ _ ?_, mulOk_l _ _ (by omega), ?_⟩
      · have h1 := Int.emod_nonneg (c * 48271 + ↑i * 69621 + 11) (show (2147483647 : Int) ≠ 0 by omega)
        have h2 := Int.emod_lt_of_pos (c * 48271 + ↑i * 69621 + 11) (show (0 : Int) < 2147483647 by omega)
        omega
      · refine Then.mk ?_; unfold m_parts_cae_2; simp! [hget, List.length_map, hlen]
        exact ⟨hn.1, by omega, step _ _ _ _ (Int.emod_nonneg _ (by omega)) (Int.emod_lt_of_pos _ hn.1)⟩
  · rintro env ⟨r, ps, s4, s5, rfl, _, hp⟩
    rw [range_len, List.take_length] at hp
    refine Then.mk ?_; unfold m_parts_3; simp! []
    refine Then.mk ?_; unfold m_parts_4; simp! []
    exact ⟨_, rfl, hp⟩
/-- a cell of the script (the laws' own helper) -/
def m_cell : ST := (sSeq (sIf (bVal (e2 vLt (eVar 1) (eArgs vLen (aCons (eVar 0) aNil)))) (sRet (e2 vIx (eVar 0) (eVar 1))) sNext)
    (sRet (eC (.int 0))))
theorem cell_ok (ns : List Int) (k : Nat) : ∃ c, defn 2 2 m_cell [.lst (ns.map .int), .int k] = .ret (.int c) := by
  suffices h : ∃ y, defn 2 2 m_cell [.lst (ns.map .int), .int k] = .ret y ∧ ∃ c, y = .int c by
    obtain ⟨y, h, c, rfl⟩ := h; exact ⟨c, h⟩
  refine defn_some rfl ?_
  unfold m_cell
  simp! [List.length_map]
  refine ⟨fun h => ?_, fun _ => Then.mk ?_⟩
  · rw [map_get? _ _ _ (by omega)]
    exact ⟨_, rfl, _, rfl⟩
  · simp! []
    exact ⟨_, rfl⟩
def m_isint : ST := (sRet (eAnd (e1 (vIsi .int) (eVar 0)) (eNot (e1 (vIsi .bool) (eVar 0)))))
theorem isint_ok (i : Int) : defn 1 1 m_isint [.int i] = .ret (.bl true) := rfl
theorem Parts.nil' {ps : List Int} (h : Parts ps []) : ps = [] := List.eq_nil_of_length_eq_zero h.1
theorem Parts.cons {ps ns : List Int} {n : Int} (h : Parts ps (n :: ns)) : ∃ p ps', ps = p :: ps' ∧ (0 ≤ p ∧ p < n) ∧ Parts ps' ns := by
  obtain ⟨h1, h2⟩ := h
  cases ps with
  | nil => cases h1
  | cons p ps =>
    refine ⟨p, ps, rfl, h2 0 (by simp) (by simp), by simpa using h1, fun i h h' => ?_⟩
    exact h2 (i + 1) (by simpa using h) (by simpa using h')
theorem lt_cases4 {i : Int} (h0 : 0 ≤ i) (h : i < 4) : i = 0 ∨ i = 1 ∨ i = 2 ∨ i = 3 := by omega
theorem ixNat_0 (n : Nat) (h : 0 < n) : ixNat n 0 = some 0 := by unfold ixNat; rw [if_pos (by omega), if_pos (by omega)]; rfl
theorem ixNat_nat (n k : Nat) (h : k < n) : ixNat n (k : Int) = some k := by unfold ixNat; rw [if_pos (by omega), if_pos (by omega)]; rfl
end Vm
end

noncomputable section
namespace Vm
namespace K01
open PySem
def m__law_parts_ca_1 : ST := (sSet 3 (e2 vDiv (eVar 3) (e2 vIx (eVar 1) (eVar 4))))
def m__law_parts_cae_2 : ST := (sAppend 2 (e2 vMod (eArgs vInt (aCons (eVar 5) aNil)) (e2 vIx (eVar 1) (eVar 4))))
def m__law_parts_cae_1 : ST := (sSeq (sSet 5 (e2 vMod (eArgs vInt (aCons (e2 vAdd (e2 vAdd (e2 vMul (eVar 5) (eVar 5)) (e2 vMul (eC (.int 16807)) (eVar 4))) (eC (.int 5))) aNil)) (eC (.int 998244353))))
    m__law_parts_cae_2)
def m__law_parts_c_L : ST := (sIf (bVal (e2 vGe (eVar 3) (eC (.int 0)))) (sSeq (sAppend 2 (e2 vMod (eArgs vInt (aCons (eVar 3) aNil)) (e2 vIx (eVar 1) (eVar 4))))
    m__law_parts_ca_1) (sSeq (sSet 5 (e2 vMod (eArgs vInt (aCons (e2 vAdd (e2 vAdd (e2 vMul (eVar 0) (eC (.int 48271))) (e2 vMul (eVar 4) (eC (.int 69621)))) (eC (.int 11))) aNil)) (eC (.int 2147483647))))
    m__law_parts_cae_1))
def m__law_parts_c_F : ST := (sFor (iRange1 (eArgs vLen (aCons (eVar 1) aNil))) (pName 4) m__law_parts_c_L)
def m__law_parts_4 : ST := (sRet (eVar 2))
def m__law_parts_3 : ST := (sSeq (sFreeze 2) m__law_parts_4)
def m__law_parts_2 : ST := (sSeq m__law_parts_c_F
    m__law_parts_3)
def m__law_parts_1 : ST := (sSeq (sSet 3 (e2 vSub (eVar 0) (e2 vPow (eC (.int 10)) (eC (.int 18)))))
    m__law_parts_2)
def m__law_parts : ST := (sSeq (sOwn 2 (eArgs vLst aNil))
    m__law_parts_1)
def f__law_parts : Fn := defn 2 6 m__law_parts

def m__law_run_c_1 : ST := (sSet 0 (e2 vDiv (eVar 0) (eC (.int 5))))
def m__law_run_c_L : ST := (sSeq (sSet 4 (e2 vAdd (eVar 4) (e2 vIx (eVar 3) (e2 vMod (eArgs vInt (aCons (e2 vAdd (eVar 0) (e2 vMul (eVar 5) (eVar 1))) aNil)) (eC (.int 36))))))
    m__law_run_c_1)
def m__law_run_c_F : ST := (sFor (iRange1 (eVar 2)) (pName 5) m__law_run_c_L)
def m__law_run_3 : ST := (sRet (eVar 4))
def m__law_run_2 : ST := (sSeq m__law_run_c_F
    m__law_run_3)
def m__law_run_1 : ST := (sSeq (sSet 4 (eC (.str "")))
    m__law_run_2)
def m__law_run : ST := (sSeq (sSet 3 (eC (.str "abcdefghijklmnopqrstuvwxyz0123456789")))
    m__law_run_1)
def f__law_run : Fn := defn 3 6 m__law_run

def m__law_token_3 : ST := (sRet (e2 vIx (eVar 1) (e2 vMod (eArgs vInt (aCons (e2 vIx (eVar 0) (eC (.int 4))) aNil)) (eArgs vLen (aCons (eVar 1) aNil)))))
def m__law_token_2 : ST := (sSeq (sIf (bVal (e2 vLt (e2 vIx (eVar 0) (eC (.int 0))) (eC (.int 8)))) (sRet (e2 vIx (eVar 1) (e2 vSub (e2 vIx (eVar 0) (eC (.int 0))) (eC (.int 6))))) sNext)
    m__law_token_3)
def m__law_token_1 : ST := (sSeq (sSet 1 (eC (.str "=;!\"#$&'()*+,-./:<>?@ABCDEFGHIJKLMNOPQRSTUVWXYZ[\\]^_`{|}~")))
    m__law_token_2)
def m__law_token : ST := (sSeq (sIf (bVal (e2 vLt (e2 vIx (eVar 0) (eC (.int 0))) (eC (.int 6)))) (sRet (eCall f__law_run (aCons (e2 vIx (eVar 0) (eC (.int 1))) (aCons (e2 vIx (eVar 0) (eC (.int 2))) (aCons (e2 vAdd (eC (.int 1)) (e2 vIx (eVar 0) (eC (.int 3)))) aNil))))) sNext)
    m__law_token_1)
def f__law_token : Fn := defn 1 2 m__law_token

def m_is_word : ST := (sRet (eAnd (e2 vIn (e2 vIx (eVar 0) (eC (.int 0))) (eC (.str "abcdefghijklmnopqrstuvwxyz"))) (e2 vLe (eArgs vLen (aCons (eVar 0) aNil)) (eC (.int 8)))))
def f_is_word : Fn := defn 1 1 m_is_word

def m_is_good : ST := (sRet (eOr (e2 vEq (eVar 0) (eC (.str "="))) (eOr (e2 vEq (eVar 0) (eC (.str ";"))) (eCall f_is_word (aCons (eVar 0) aNil)))))
def f_is_good : Fn := defn 1 1 m_is_good

def m__law_in_run : ST := (sRet (e2 vIn (eVar 0) (eC (.str "abcdefghijklmnopqrstuvwxyz0123456789"))))
def f__law_in_run : Fn := defn 1 1 m__law_in_run

def m__law_char_2 : ST := (sRet (e2 vIx (eVar 1) (e2 vMod (eArgs vInt (aCons (eVar 0) aNil)) (eArgs vLen (aCons (eVar 1) aNil)))))
def m__law_char_1 : ST := (sSeq (sSet 1 (e2 vAdd (eVar 1) (eC (.str "abcdefghijklmnopqrstuvwxyz{|}~\n"))))
    m__law_char_2)
def m__law_char : ST := (sSeq (sSet 1 (eC (.str " !\"#$&'()*+,-./0123456789:;<=>?@ABCDEFGHIJKLMNOPQRSTUVWXYZ[\\]^_`")))
    m__law_char_1)
def f__law_char : Fn := defn 1 2 m__law_char

def m__law_is_integer : ST := (sRet (eAnd (e1 (vIsi .int) (eVar 0)) (eNot (e1 (vIsi .bool) (eVar 0)))))
def f__law_is_integer : Fn := defn 1 1 m__law_is_integer

def m__law_same_b_3 : ST := (sIf (bOr (bVal (e2 vNe (e2 vIx (eVar 3) (eC (.int 0))) (e2 vIx (e2 vIx (eVar 1) (eVar 2)) (eC (.int 0))))) (bVal (e2 vNe (e2 vIx (eVar 3) (eC (.int 1))) (e2 vIx (e2 vIx (eVar 1) (eVar 2)) (eC (.int 1)))))) (sRet (eC (.bl false))) sNext)
def m__law_same_b_2 : ST := (sSeq (sIf (bOr (bNot (bTruth (eCall f__law_is_integer (aCons (e2 vIx (eVar 3) (eC (.int 0))) aNil)))) (bNot (bTruth (e1 (vIsi .str) (e2 vIx (eVar 3) (eC (.int 1))))))) (sRet (eC (.bl false))) sNext)
    m__law_same_b_3)
def m__law_same_b_1 : ST := (sSeq (sIf (bOr (bNot (bTruth (e1 (vIsi .tuple) (eVar 3)))) (bVal (e2 vNe (eArgs vLen (aCons (eVar 3) aNil)) (eC (.int 2))))) (sRet (eC (.bl false))) sNext)
    m__law_same_b_2)
def m__law_same_b_L : ST := (sSeq (sSet 3 (e2 vIx (eVar 0) (eVar 2)))
    m__law_same_b_1)
def m__law_same_b_F : ST := (sFor (iRange1 (eArgs vLen (aCons (eVar 1) aNil))) (pName 2) m__law_same_b_L)
def m__law_same_2 : ST := (sRet (eC (.bl true)))
def m__law_same_1 : ST := (sSeq m__law_same_b_F
    m__law_same_2)
def m__law_same : ST := (sSeq (sIf (bOr (bNot (bTruth (e1 (vIsi .list) (eVar 0)))) (bVal (e2 vNe (eArgs vLen (aCons (eVar 0) aNil)) (eArgs vLen (aCons (eVar 1) aNil))))) (sRet (eC (.bl false))) sNext)
    m__law_same_1)
def f__law_same : Fn := defn 2 4 m__law_same

def m_token_end_b_L : ST := (sAug vIpAdd 2 (eC (.int 1)))
def m_token_end_b_F : ST := (sWhile 100000 (bAnd (bVal (e2 vLt (eVar 2) (eArgs vLen (aCons (eVar 0) aNil)))) (bVal (e2 vIn (e2 vIx (eVar 0) (eVar 2)) (eC (.str "abcdefghijklmnopqrstuvwxyz0123456789"))))) m_token_end_b_L)
def m_token_end_2 : ST := (sRet (eArgs vMax (aCons (eVar 2) (aCons (e2 vAdd (eVar 1) (eC (.int 1))) aNil))))
def m_token_end_1 : ST := (sSeq m_token_end_b_F
    m_token_end_2)
def m_token_end : ST := (sSeq (sSet 2 (eVar 1))
    m_token_end_1)
def f_token_end : Fn := defn 2 3 m_token_end

def m_split_tokens_cae_2 : ST := (sSet 2 (eVar 3))
def m_split_tokens_cae_1 : ST := (sSeq (sAppend 1 (eArgs vTup (aCons (eVar 2) (aCons (eCut (eVar 0) (some (eVar 2)) (some (eVar 3))) aNil))))
    m_split_tokens_cae_2)
def m_split_tokens_c_L : ST := (sIf (bOr (bVal (e2 vEq (e2 vIx (eVar 0) (eVar 2)) (eC (.str " ")))) (bVal (e2 vEq (e2 vIx (eVar 0) (eVar 2)) (eC (.str "\n"))))) (sAug vIpAdd 2 (eC (.int 1))) (sSeq (sSet 3 (eCall f_token_end (aCons (eVar 0) (aCons (eVar 2) aNil))))
    m_split_tokens_cae_1))
def m_split_tokens_c_F : ST := (sWhile 100000 (bVal (e2 vLt (eVar 2) (eArgs vLen (aCons (eVar 0) aNil)))) m_split_tokens_c_L)
def m_split_tokens_4 : ST := (sRet (eVar 1))
def m_split_tokens_3 : ST := (sSeq (sFreeze 1) m_split_tokens_4)
def m_split_tokens_2 : ST := (sSeq m_split_tokens_c_F
    m_split_tokens_3)
def m_split_tokens_1 : ST := (sSeq (sSet 2 (eC (.int 0)))
    m_split_tokens_2)
def m_split_tokens : ST := (sSeq (sOwn 1 (eArgs vLst aNil))
    m_split_tokens_1)
def f_split_tokens : Fn := defn 1 4 m_split_tokens

def m__law_pairs_b_1 : ST := (sIf (bTruth (eVar 3)) (sOn 1 (sItemN 1 (e1 vNeg (eC (.int 1))) (eArgs vTup (aCons (e2 vIx (e2 vIx (eVar 1) (e1 vNeg (eC (.int 1)))) (eC (.int 0))) (aCons (e2 vAdd (e2 vIx (e2 vIx (eVar 1) (e1 vNeg (eC (.int 1)))) (eC (.int 1))) (e2 vIx (eVar 0) (eVar 2))) aNil))))) (sIf (bVal (e2 vNotIn (e2 vIx (eVar 0) (eVar 2)) (eC (.str " \n")))) (sAppend 1 (eArgs vTup (aCons (eVar 2) (aCons (e2 vIx (eVar 0) (eVar 2)) aNil)))) sNext))
def m__law_pairs_b_L : ST := (sSeq (sSet 3 (eAnd (e2 vGt (eVar 2) (eC (.int 0))) (eAnd (eCall f__law_in_run (aCons (e2 vIx (eVar 0) (eVar 2)) aNil)) (eCall f__law_in_run (aCons (e2 vIx (eVar 0) (e2 vSub (eVar 2) (eC (.int 1)))) aNil)))))
    m__law_pairs_b_1)
def m__law_pairs_b_F : ST := (sFor (iRange1 (eArgs vLen (aCons (eVar 0) aNil))) (pName 2) m__law_pairs_b_L)
def m__law_pairs_3 : ST := (sRet (eVar 1))
def m__law_pairs_2 : ST := (sSeq (sFreeze 1) m__law_pairs_3)
def m__law_pairs_1 : ST := (sSeq m__law_pairs_b_F
    m__law_pairs_2)
def m__law_pairs : ST := (sSeq (sOwn 1 (eArgs vLst aNil))
    m__law_pairs_1)
def f__law_pairs : Fn := defn 1 4 m__law_pairs

def m__law_good_1 : ST := (sRet (eAnd (e2 vNotIn (e2 vIx (eVar 0) (eC (.int 0))) (eC (.str "0123456789"))) (e2 vLe (eArgs vLen (aCons (eVar 0) aNil)) (eC (.int 8)))))
def m__law_good : ST := (sSeq (sIf (bAnd (bVal (e2 vEq (eArgs vLen (aCons (eVar 0) aNil)) (eC (.int 1)))) (bNot (bTruth (eCall f__law_in_run (aCons (eVar 0) aNil))))) (sRet (e2 vIn (eVar 0) (eC (.str "=;")))) sNext)
    m__law_good_1)
def f__law_good : Fn := defn 1 1 m__law_good

def m_law_e_7 : ST := (sSet 3 (e2 vAdd (e2 vAdd (e2 vAdd (eVar 3) (eCall f__law_char (aCons (e2 vIx (eVar 7) (eC (.int 6))) aNil))) (eCall f__law_char (aCons (e2 vIx (eVar 7) (eC (.int 7))) aNil))) (eCall f__law_char (aCons (e2 vIx (eVar 7) (eC (.int 8))) aNil))))
def m_law_e_6 : ST := (sSeq (sSet 2 (e2 vAdd (eVar 2) (eVar 8)))
    m_law_e_7)
def m_law_e_5 : ST := (sSeq (sAppend 4 (eArgs vTup (aCons (eArgs vLen (aCons (eVar 2) aNil)) (aCons (eVar 8) aNil))))
    m_law_e_6)
def m_law_e_4 : ST := (sSeq (sSet 2 (e2 vAdd (eVar 2) (eVar 9)))
    m_law_e_5)
def m_law_e_3 : ST := (sSeq (sIf (bAnd (bVal (e2 vNe (eVar 2) (eC (.str "")))) (bAnd (bVal (e2 vEq (eVar 9) (eC (.str "")))) (bAnd (bTruth (eCall f__law_in_run (aCons (e2 vIx (eVar 2) (e1 vNeg (eC (.int 1)))) aNil))) (bTruth (eCall f__law_in_run (aCons (e2 vIx (eVar 8) (eC (.int 0))) aNil)))))) (sSet 9 (eC (.str " "))) sNext)
    m_law_e_4)
def m_law_e_2 : ST := (sSeq (sSet 9 (e2 vIx (eVar 1) (e2 vIx (eVar 7) (eC (.int 5)))))
    m_law_e_3)
def m_law_e_1 : ST := (sSeq (sSet 8 (eCall f__law_token (aCons (eVar 7) aNil)))
    m_law_e_2)
def m_law_e_L : ST := (sSeq (sSet 7 (eCall f__law_parts (aCons (eVar 5) (aCons (eArgs vLst (aCons (eC (.int 11)) (aCons (e2 vPow (eC (.int 10)) (eC (.int 9))) (aCons (eC (.int 36)) (aCons (eC (.int 12)) (aCons (eC (.int 60)) (aCons (eC (.int 7)) (aCons (eC (.int 97)) (aCons (eC (.int 97)) (aCons (eC (.int 97)) aNil)))))))))) aNil))))
    m_law_e_1)
def m_law_e_F : ST := (sFor (iSeq (eCut (eVar 0) none (some (eC (.int 100))))) (pName 5) m_law_e_L)
def m_law_h_1 : ST := (sIf (bOr (bNot (bTruth (e1 (vIsi .bool) (eVar 10)))) (bVal (e2 vNe (eVar 10) (eCall f__law_good (aCons (e2 vIx (eVar 6) (eC (.int 1))) aNil))))) (sRet (eC (.bl false))) sNext)
def m_law_h_L : ST := (sSeq (sSet 10 (eCall f_is_good (aCons (e2 vIx (eVar 6) (eC (.int 1))) aNil)))
    m_law_h_1)
def m_law_h_F : ST := (sFor (iSeq (eVar 4)) (pName 6) m_law_h_L)
def m_law_9 : ST := (sRet (eC (.bl true)))
def m_law_8 : ST := (sSeq m_law_h_F
    m_law_9)
def m_law_7 : ST := (sSeq (sIf (bOr (bNot (bTruth (eCall f__law_same (aCons (eCall f_split_tokens (aCons (eVar 2) aNil)) (aCons (eVar 4) aNil))))) (bNot (bTruth (eCall f__law_same (aCons (eCall f_split_tokens (aCons (eVar 3) aNil)) (aCons (eCall f__law_pairs (aCons (eVar 3) aNil)) aNil)))))) (sRet (eC (.bl false))) sNext)
    m_law_8)
def m_law_6 : ST := (sSeq (sIf (bVal (e2 vGt (eArgs vLen (aCons (eVar 0) aNil)) (eC (.int 0)))) (sSet 2 (e2 vAdd (eVar 2) (e2 vIx (eVar 1) (e2 vMod (eArgs vInt (aCons (e2 vIx (eVar 0) (e1 vNeg (eC (.int 1)))) aNil)) (eC (.int 7)))))) sNext)
    m_law_7)
def m_law_5 : ST := (sSeq (sFreeze 4) m_law_6)
def m_law_4 : ST := (sSeq m_law_e_F
    m_law_5)
def m_law_3 : ST := (sSeq (sOwn 4 (eArgs vLst aNil))
    m_law_4)
def m_law_2 : ST := (sSeq (sSet 3 (eC (.str "")))
    m_law_3)
def m_law_1 : ST := (sSeq (sSet 2 (eC (.str "")))
    m_law_2)
def m_law : ST := (sSeq (sSet 1 (eArgs vLst (aCons (eC (.str "")) (aCons (eC (.str " ")) (aCons (eC (.str "\n")) (aCons (eC (.str "  ")) (aCons (eC (.str " \n")) (aCons (eC (.str "\n\n")) (aCons (eC (.str "")) aNil)))))))))
    m_law_1)
def f_law : Fn := defn 1 11 m_law
end K01
end Vm
end

namespace Vm
namespace K01
open PySem L2 PyProof.Rows
abbrev T (i : Nat) : Stmt := PySem.Challenge.pw_gatesread_k01_split_tokens.main.body.getD i (.Pass ⟨0, 0, 0, 0⟩)
structure Glb (w : World) (K : PySem.W.Frag) (mg : Str → Option Value) : Prop where
  u_range : mg "range" = none
  u_len : mg "len" = none
  u_int : mg "int" = none
  u_isinstance : mg "isinstance" = none
  u_bool : mg "bool" = none
  u_list : mg "list" = none
  u_tuple : mg "tuple" = none
  u_str : mg "str" = none
  u_max : mg "max" = none
  g_LETTERS : ∃ t, mg "LETTERS" = some (.str "abcdefghijklmnopqrstuvwxyz" t)
  g_LONGEST_WORD : ∃ t, mg "LONGEST_WORD" = some (.int 8 t)
  g_RUN_CHARACTERS : ∃ t, mg "RUN_CHARACTERS" = some (.str "abcdefghijklmnopqrstuvwxyz0123456789" t)
  a__law_parts : mg "_law_parts" = some (.ref (He.ga K "_law_parts"))
  D__law_parts : ∃ fd, L2.FunD K "_law_parts" "_law_parts" (defArgs (T 9)) (defBody (T 9)) (defScope (T 9)) [] [] (He.ga K "_law_parts") fd
  a__law_run : mg "_law_run" = some (.ref (He.ga K "_law_run"))
  D__law_run : ∃ fd, L2.FunD K "_law_run" "_law_run" (defArgs (T 11)) (defBody (T 11)) (defScope (T 11)) [] [] (He.ga K "_law_run") fd
  a__law_token : mg "_law_token" = some (.ref (He.ga K "_law_token"))
  D__law_token : ∃ fd, L2.FunD K "_law_token" "_law_token" (defArgs (T 12)) (defBody (T 12)) (defScope (T 12)) [] [] (He.ga K "_law_token") fd
  a_is_word : mg "is_word" = some (.ref (He.ga K "is_word"))
  D_is_word : ∃ fd, L2.FunD K "is_word" "is_word" (defArgs (T 6)) (defBody (T 6)) (defScope (T 6)) [] [] (He.ga K "is_word") fd
  a_is_good : mg "is_good" = some (.ref (He.ga K "is_good"))
  D_is_good : ∃ fd, L2.FunD K "is_good" "is_good" (defArgs (T 7)) (defBody (T 7)) (defScope (T 7)) [] [] (He.ga K "is_good") fd
  a__law_in_run : mg "_law_in_run" = some (.ref (He.ga K "_law_in_run"))
  D__law_in_run : ∃ fd, L2.FunD K "_law_in_run" "_law_in_run" (defArgs (T 13)) (defBody (T 13)) (defScope (T 13)) [] [] (He.ga K "_law_in_run") fd
  a__law_char : mg "_law_char" = some (.ref (He.ga K "_law_char"))
  D__law_char : ∃ fd, L2.FunD K "_law_char" "_law_char" (defArgs (T 15)) (defBody (T 15)) (defScope (T 15)) [] [] (He.ga K "_law_char") fd
  a__law_is_integer : mg "_law_is_integer" = some (.ref (He.ga K "_law_is_integer"))
  D__law_is_integer : ∃ fd, L2.FunD K "_law_is_integer" "_law_is_integer" (defArgs (T 10)) (defBody (T 10)) (defScope (T 10)) [] [] (He.ga K "_law_is_integer") fd
  a__law_same : mg "_law_same" = some (.ref (He.ga K "_law_same"))
  D__law_same : ∃ fd, L2.FunD K "_law_same" "_law_same" (defArgs (T 17)) (defBody (T 17)) (defScope (T 17)) [] [] (He.ga K "_law_same") fd
  a_token_end : mg "token_end" = some (.ref (He.ga K "token_end"))
  D_token_end : ∃ fd, L2.FunD K "token_end" "token_end" (defArgs (T 4)) (defBody (T 4)) (defScope (T 4)) [] [] (He.ga K "token_end") fd
  a_split_tokens : mg "split_tokens" = some (.ref (He.ga K "split_tokens"))
  D_split_tokens : ∃ fd, L2.FunD K "split_tokens" "split_tokens" (defArgs (T 5)) (defBody (T 5)) (defScope (T 5)) [] [] (He.ga K "split_tokens") fd
  a__law_pairs : mg "_law_pairs" = some (.ref (He.ga K "_law_pairs"))
  D__law_pairs : ∃ fd, L2.FunD K "_law_pairs" "_law_pairs" (defArgs (T 16)) (defBody (T 16)) (defScope (T 16)) [] [] (He.ga K "_law_pairs") fd
  a__law_good : mg "_law_good" = some (.ref (He.ga K "_law_good"))
  D__law_good : ∃ fd, L2.FunD K "_law_good" "_law_good" (defArgs (T 14)) (defBody (T 14)) (defScope (T 14)) [] [] (He.ga K "_law_good") fd
  a_law : mg "law" = some (.ref (He.ga K "law"))
  D_law : ∃ fd, L2.FunD K "law" "law" (defArgs (T 18)) (defBody (T 18)) (defScope (T 18)) [] [] (He.ga K "law") fd
section
variable {P : Program} {w : World} {K : PySem.W.Frag} {mg : Str → Option Value} {base : Heap} {XR : XRel}

def N__law_parts : List Str := ["_law_cell", "_law_sizes", "_law_parts_here", "_law_rest", "_law_k", "_law_mixed"]
theorem s__law_parts : FnScope N__law_parts ["_law_cell", "_law_sizes"] (defScope (T 9)) := ⟨rfl, rfl, rfl, by decide +kernel, rfl, by decide +kernel, by decide +kernel⟩
set_option maxHeartbeats 0 in
theorem b__law_parts (G : Glb w K mg) : Body P w K mg base XR 0 N__law_parts "_law_parts" (defScope (T 9)) (defBody (T 9)) m__law_parts := by
  intro f cd A outer s H E W X tk F hr
  have nd : X.N.Nodup := s__law_parts.nd
  exact ⟨_, (ss_cons (ss_own 2 (sf_lst sa_nil))
    (ss_cons (ss_set 3 (se_sub (se_var 0) (se_pow se_int se_int)))
    (ss_cons (ss_for F (si_rng1 G.u_range (se_len G.u_len (sa_cons (se_var 1) sa_nil))) (sg_name 4) (ss_one (ss_if (sb_cmp c_ge (se_var 3) se_int) (ss_cons (ss_app 2 (se_mod (se_intOf G.u_int (sa_cons (se_var 3) sa_nil)) (se_ix F (se_var 1) (se_var 4))))
    (ss_one (ss_set 3 (se_div (se_var 3) (se_ix F (se_var 1) (se_var 4)))))) (ss_cons (ss_set 5 (se_mod (se_intOf G.u_int (sa_cons (se_add (se_add (se_mul (se_var 0) se_int) (se_mul (se_var 4) se_int)) se_int) sa_nil)) se_int))
    (ss_cons (ss_set 5 (se_mod (se_intOf G.u_int (sa_cons (se_add (se_add (se_mul (se_var 5) (se_var 5)) (se_mul se_int (se_var 4))) se_int) sa_nil)) se_int))
    (ss_one (ss_app 2 (se_mod (se_intOf G.u_int (sa_cons (se_var 5) sa_nil)) (se_ix F (se_var 1) (se_var 4))))))))))
    (ss_freeze 2 (ss_one (ss_ret (se_var 2)))))))⟩
theorem c__law_parts (G : Glb w K mg) : Cal P w K mg base XR "_law_parts" 1 2 f__law_parts := by
  obtain ⟨fd, F⟩ := G.D__law_parts
  exact cal_of F G.a__law_parts s__law_parts (fun _ _ _ _ _ _ us hl => match us, hl with | [_, _], _ => rfl) rfl rfl (b__law_parts G)

def N__law_run : List Str := ["_law_code", "_law_step", "_law_length", "_law_letters", "_law_run_here", "_law_k"]
theorem s__law_run : FnScope N__law_run ["_law_code", "_law_step", "_law_length"] (defScope (T 11)) := ⟨rfl, rfl, rfl, by decide +kernel, rfl, by decide +kernel, by decide +kernel⟩
set_option maxHeartbeats 0 in
theorem b__law_run (G : Glb w K mg) : Body P w K mg base XR 0 N__law_run "_law_run" (defScope (T 11)) (defBody (T 11)) m__law_run := by
  intro f cd A outer s H E W X tk F hr
  have nd : X.N.Nodup := s__law_run.nd
  exact ⟨_, (ss_cons (ss_set 3 se_str)
    (ss_cons (ss_set 4 se_str)
    (ss_cons (ss_for F (si_rng1 G.u_range (se_var 2)) (sg_name 5) (ss_cons (ss_set 4 (se_add (se_var 4) (se_ix F (se_var 3) (se_mod (se_intOf G.u_int (sa_cons (se_add (se_var 0) (se_mul (se_var 5) (se_var 1))) sa_nil)) se_int))))
    (ss_one (ss_set 0 (se_div (se_var 0) se_int)))))
    (ss_one (ss_ret (se_var 4))))))⟩
theorem c__law_run (G : Glb w K mg) : Cal P w K mg base XR "_law_run" 1 3 f__law_run := by
  obtain ⟨fd, F⟩ := G.D__law_run
  exact cal_of F G.a__law_run s__law_run (fun _ _ _ _ _ _ us hl => match us, hl with | [_, _, _], _ => rfl) rfl rfl (b__law_run G)

def N__law_token : List Str := ["_law_parts_here", "_law_signs"]
theorem s__law_token : FnScope N__law_token ["_law_parts_here"] (defScope (T 12)) := ⟨rfl, rfl, rfl, by decide +kernel, rfl, by decide +kernel, by decide +kernel⟩
set_option maxHeartbeats 0 in
theorem b__law_token (G : Glb w K mg) : Body P w K mg base XR 1 N__law_token "_law_token" (defScope (T 12)) (defBody (T 12)) m__law_token := by
  intro f cd A outer s H E W X tk F hr
  have nd : X.N.Nodup := s__law_token.nd
  exact ⟨_, (ss_cons (ss_if (sb_cmp c_lt (se_ix F (se_var 0) se_int) se_int) (ss_one (ss_ret (se_call (c__law_run G) hr F.le (sa_cons (se_ix F (se_var 0) se_int) (sa_cons (se_ix F (se_var 0) se_int) (sa_cons (se_add se_int (se_ix F (se_var 0) se_int)) sa_nil)))))) ss_nil)
    (ss_cons (ss_set 1 se_str)
    (ss_cons (ss_if (sb_cmp c_lt (se_ix F (se_var 0) se_int) se_int) (ss_one (ss_ret (se_ix F (se_var 1) (se_sub (se_ix F (se_var 0) se_int) se_int)))) ss_nil)
    (ss_one (ss_ret (se_ix F (se_var 1) (se_mod (se_intOf G.u_int (sa_cons (se_ix F (se_var 0) se_int) sa_nil)) (se_len G.u_len (sa_cons (se_var 1) sa_nil)))))))))⟩
theorem c__law_token (G : Glb w K mg) : Cal P w K mg base XR "_law_token" 2 1 f__law_token := by
  obtain ⟨fd, F⟩ := G.D__law_token
  exact cal_of F G.a__law_token s__law_token (fun _ _ _ _ _ _ us hl => match us, hl with | [_], _ => rfl) rfl rfl (b__law_token G)

def N_is_word : List Str := ["token"]
theorem s_is_word : FnScope N_is_word ["token"] (defScope (T 6)) := ⟨rfl, rfl, rfl, by decide +kernel, rfl, by decide +kernel, by decide +kernel⟩
set_option maxHeartbeats 0 in
theorem b_is_word (G : Glb w K mg) : Body P w K mg base XR 0 N_is_word "is_word" (defScope (T 6)) (defBody (T 6)) m_is_word := by
  intro f cd A outer s H E W X tk F hr
  have nd : X.N.Nodup := s_is_word.nd
  exact ⟨_, (ss_one (ss_ret (se_and (se_cmp (c_in F) (se_ix F (se_var 0) se_int) (se_gs G.g_LETTERS)) (se_one (se_cmp c_le (se_len G.u_len (sa_cons (se_var 0) sa_nil)) (se_gi G.g_LONGEST_WORD))))))⟩
theorem c_is_word (G : Glb w K mg) : Cal P w K mg base XR "is_word" 1 1 f_is_word := by
  obtain ⟨fd, F⟩ := G.D_is_word
  exact cal_of F G.a_is_word s_is_word (fun _ _ _ _ _ _ us hl => match us, hl with | [_], _ => rfl) rfl rfl (b_is_word G)

def N_is_good : List Str := ["token"]
theorem s_is_good : FnScope N_is_good ["token"] (defScope (T 7)) := ⟨rfl, rfl, rfl, by decide +kernel, rfl, by decide +kernel, by decide +kernel⟩
set_option maxHeartbeats 0 in
theorem b_is_good (G : Glb w K mg) : Body P w K mg base XR 1 N_is_good "is_good" (defScope (T 7)) (defBody (T 7)) m_is_good := by
  intro f cd A outer s H E W X tk F hr
  have nd : X.N.Nodup := s_is_good.nd
  exact ⟨_, (ss_one (ss_ret (se_or (se_cmp (c_eq F) (se_var 0) se_str) (se_or (se_cmp (c_eq F) (se_var 0) se_str) (se_one (se_call (c_is_word G) hr F.le (sa_cons (se_var 0) sa_nil)))))))⟩
theorem c_is_good (G : Glb w K mg) : Cal P w K mg base XR "is_good" 2 1 f_is_good := by
  obtain ⟨fd, F⟩ := G.D_is_good
  exact cal_of F G.a_is_good s_is_good (fun _ _ _ _ _ _ us hl => match us, hl with | [_], _ => rfl) rfl rfl (b_is_good G)

def N__law_in_run : List Str := ["_law_char_here"]
theorem s__law_in_run : FnScope N__law_in_run ["_law_char_here"] (defScope (T 13)) := ⟨rfl, rfl, rfl, by decide +kernel, rfl, by decide +kernel, by decide +kernel⟩
set_option maxHeartbeats 0 in
theorem b__law_in_run (G : Glb w K mg) : Body P w K mg base XR 0 N__law_in_run "_law_in_run" (defScope (T 13)) (defBody (T 13)) m__law_in_run := by
  intro f cd A outer s H E W X tk F hr
  have nd : X.N.Nodup := s__law_in_run.nd
  exact ⟨_, (ss_one (ss_ret (se_cmp (c_in F) (se_var 0) se_str)))⟩
theorem c__law_in_run (G : Glb w K mg) : Cal P w K mg base XR "_law_in_run" 1 1 f__law_in_run := by
  obtain ⟨fd, F⟩ := G.D__law_in_run
  exact cal_of F G.a__law_in_run s__law_in_run (fun _ _ _ _ _ _ us hl => match us, hl with | [_], _ => rfl) rfl rfl (b__law_in_run G)

def N__law_char : List Str := ["_law_number", "_law_chars"]
theorem s__law_char : FnScope N__law_char ["_law_number"] (defScope (T 15)) := ⟨rfl, rfl, rfl, by decide +kernel, rfl, by decide +kernel, by decide +kernel⟩
set_option maxHeartbeats 0 in
theorem b__law_char (G : Glb w K mg) : Body P w K mg base XR 0 N__law_char "_law_char" (defScope (T 15)) (defBody (T 15)) m__law_char := by
  intro f cd A outer s H E W X tk F hr
  have nd : X.N.Nodup := s__law_char.nd
  exact ⟨_, (ss_cons (ss_set 1 se_str)
    (ss_cons (ss_set 1 (se_add (se_var 1) se_str))
    (ss_one (ss_ret (se_ix F (se_var 1) (se_mod (se_intOf G.u_int (sa_cons (se_var 0) sa_nil)) (se_len G.u_len (sa_cons (se_var 1) sa_nil))))))))⟩
theorem c__law_char (G : Glb w K mg) : Cal P w K mg base XR "_law_char" 1 1 f__law_char := by
  obtain ⟨fd, F⟩ := G.D__law_char
  exact cal_of F G.a__law_char s__law_char (fun _ _ _ _ _ _ us hl => match us, hl with | [_], _ => rfl) rfl rfl (b__law_char G)

def N__law_is_integer : List Str := ["_law_actual"]
theorem s__law_is_integer : FnScope N__law_is_integer ["_law_actual"] (defScope (T 10)) := ⟨rfl, rfl, rfl, by decide +kernel, rfl, by decide +kernel, by decide +kernel⟩
set_option maxHeartbeats 0 in
theorem b__law_is_integer (G : Glb w K mg) : Body P w K mg base XR 0 N__law_is_integer "_law_is_integer" (defScope (T 10)) (defBody (T 10)) m__law_is_integer := by
  intro f cd A outer s H E W X tk F hr
  have nd : X.N.Nodup := s__law_is_integer.nd
  exact ⟨_, (ss_one (ss_ret (se_and (se_isi (u := .int) G.u_isinstance G.u_int bi_int (se_var 0)) (se_one (se_not (se_isi (u := .bool) G.u_isinstance G.u_bool bi_bool (se_var 0)))))))⟩
theorem c__law_is_integer (G : Glb w K mg) : Cal P w K mg base XR "_law_is_integer" 1 1 f__law_is_integer := by
  obtain ⟨fd, F⟩ := G.D__law_is_integer
  exact cal_of F G.a__law_is_integer s__law_is_integer (fun _ _ _ _ _ _ us hl => match us, hl with | [_], _ => rfl) rfl rfl (b__law_is_integer G)

def N__law_same : List Str := ["_law_actual", "_law_expected", "_law_k", "_law_pair"]
theorem s__law_same : FnScope N__law_same ["_law_actual", "_law_expected"] (defScope (T 17)) := ⟨rfl, rfl, rfl, by decide +kernel, rfl, by decide +kernel, by decide +kernel⟩
set_option maxHeartbeats 0 in
theorem b__law_same (G : Glb w K mg) : Body P w K mg base XR 1 N__law_same "_law_same" (defScope (T 17)) (defBody (T 17)) m__law_same := by
  intro f cd A outer s H E W X tk F hr
  have nd : X.N.Nodup := s__law_same.nd
  exact ⟨_, (ss_cons (ss_if (sb_w (sw_or (sb_not (sb_tru (se_isi (u := .list) G.u_isinstance G.u_list bi_list (se_var 0)))) (sw_or1 (sb_cmp (c_ne F) (se_len G.u_len (sa_cons (se_var 0) sa_nil)) (se_len G.u_len (sa_cons (se_var 1) sa_nil)))))) (ss_one (ss_ret se_bl)) ss_nil)
    (ss_cons (ss_for F (si_rng1 G.u_range (se_len G.u_len (sa_cons (se_var 1) sa_nil))) (sg_name 2) (ss_cons (ss_set 3 (se_ix F (se_var 0) (se_var 2)))
    (ss_cons (ss_if (sb_w (sw_or (sb_not (sb_tru (se_isi (u := .tuple) G.u_isinstance G.u_tuple bi_tuple (se_var 3)))) (sw_or1 (sb_cmp (c_ne F) (se_len G.u_len (sa_cons (se_var 3) sa_nil)) se_int)))) (ss_one (ss_ret se_bl)) ss_nil)
    (ss_cons (ss_if (sb_w (sw_or (sb_not (sb_tru (se_call (c__law_is_integer G) hr F.le (sa_cons (se_ix F (se_var 3) se_int) sa_nil)))) (sw_or1 (sb_not (sb_tru (se_isi (u := .str) G.u_isinstance G.u_str bi_str (se_ix F (se_var 3) se_int))))))) (ss_one (ss_ret se_bl)) ss_nil)
    (ss_one (ss_if (sb_w (sw_or (sb_cmp (c_ne F) (se_ix F (se_var 3) se_int) (se_ix F (se_ix F (se_var 1) (se_var 2)) se_int)) (sw_or1 (sb_cmp (c_ne F) (se_ix F (se_var 3) se_int) (se_ix F (se_ix F (se_var 1) (se_var 2)) se_int))))) (ss_one (ss_ret se_bl)) ss_nil))))))
    (ss_one (ss_ret se_bl))))⟩
theorem c__law_same (G : Glb w K mg) : Cal P w K mg base XR "_law_same" 2 2 f__law_same := by
  obtain ⟨fd, F⟩ := G.D__law_same
  exact cal_of F G.a__law_same s__law_same (fun _ _ _ _ _ _ us hl => match us, hl with | [_, _], _ => rfl) rfl rfl (b__law_same G)

def N_token_end : List Str := ["text", "start", "end"]
theorem s_token_end : FnScope N_token_end ["text", "start"] (defScope (T 4)) := ⟨rfl, rfl, rfl, by decide +kernel, rfl, by decide +kernel, by decide +kernel⟩
set_option maxHeartbeats 0 in
theorem b_token_end (G : Glb w K mg) : Body P w K mg base XR 0 N_token_end "token_end" (defScope (T 4)) (defBody (T 4)) m_token_end := by
  intro f cd A outer s H E W X tk F hr
  have nd : X.N.Nodup := s_token_end.nd
  exact ⟨_, (ss_cons (ss_set 2 (se_var 1))
    (ss_cons (ss_while 100000 F (sb_w (sw_and (sb_cmp c_lt (se_var 2) (se_len G.u_len (sa_cons (se_var 0) sa_nil))) (sw_and1 (sb_cmp (c_in F) (se_ix F (se_var 0) (se_var 2)) (se_gs G.g_RUN_CHARACTERS))))) (ss_one (ss_augAdd 2 se_int)))
    (ss_one (ss_ret (se_max F G.u_max (sa_cons (se_var 2) (sa_cons (se_add (se_var 1) se_int) sa_nil)))))))⟩
theorem c_token_end (G : Glb w K mg) : Cal P w K mg base XR "token_end" 1 2 f_token_end := by
  obtain ⟨fd, F⟩ := G.D_token_end
  exact cal_of F G.a_token_end s_token_end (fun _ _ _ _ _ _ us hl => match us, hl with | [_, _], _ => rfl) rfl rfl (b_token_end G)

def N_split_tokens : List Str := ["text", "tokens", "start", "end"]
theorem s_split_tokens : FnScope N_split_tokens ["text"] (defScope (T 5)) := ⟨rfl, rfl, rfl, by decide +kernel, rfl, by decide +kernel, by decide +kernel⟩
set_option maxHeartbeats 0 in
theorem b_split_tokens (G : Glb w K mg) : Body P w K mg base XR 1 N_split_tokens "split_tokens" (defScope (T 5)) (defBody (T 5)) m_split_tokens := by
  intro f cd A outer s H E W X tk F hr
  have nd : X.N.Nodup := s_split_tokens.nd
  exact ⟨_, (ss_cons (ss_own 1 (sf_lst sa_nil))
    (ss_cons (ss_set 2 se_int)
    (ss_cons (ss_while 100000 F (sb_cmp c_lt (se_var 2) (se_len G.u_len (sa_cons (se_var 0) sa_nil))) (ss_one (ss_if (sb_w (sw_or (sb_cmp (c_eq F) (se_ix F (se_var 0) (se_var 2)) se_str) (sw_or1 (sb_cmp (c_eq F) (se_ix F (se_var 0) (se_var 2)) se_str)))) (ss_one (ss_augAdd 2 se_int)) (ss_cons (ss_set 3 (se_call (c_token_end G) hr F.le (sa_cons (se_var 0) (sa_cons (se_var 2) sa_nil))))
    (ss_cons (ss_app 1 (se_tup (sa_cons (se_var 2) (sa_cons (se_cut (se_var 0) (so_some (se_var 2)) (so_some (se_var 3))) sa_nil))))
    (ss_one (ss_set 2 (se_var 3))))))))
    (ss_freeze 1 (ss_one (ss_ret (se_var 1)))))))⟩
theorem c_split_tokens (G : Glb w K mg) : Cal P w K mg base XR "split_tokens" 2 1 f_split_tokens := by
  obtain ⟨fd, F⟩ := G.D_split_tokens
  exact cal_of F G.a_split_tokens s_split_tokens (fun _ _ _ _ _ _ us hl => match us, hl with | [_], _ => rfl) rfl rfl (b_split_tokens G)

def N__law_pairs : List Str := ["_law_text", "_law_pairs_here", "_law_k", "_law_joined"]
theorem s__law_pairs : FnScope N__law_pairs ["_law_text"] (defScope (T 16)) := ⟨rfl, rfl, rfl, by decide +kernel, rfl, by decide +kernel, by decide +kernel⟩
set_option maxHeartbeats 0 in
theorem b__law_pairs (G : Glb w K mg) : Body P w K mg base XR 1 N__law_pairs "_law_pairs" (defScope (T 16)) (defBody (T 16)) m__law_pairs := by
  intro f cd A outer s H E W X tk F hr
  have nd : X.N.Nodup := s__law_pairs.nd
  exact ⟨_, (ss_cons (ss_own 1 (sf_lst sa_nil))
    (ss_cons (ss_for F (si_rng1 G.u_range (se_len G.u_len (sa_cons (se_var 0) sa_nil))) (sg_name 2) (ss_cons (ss_set 3 (se_and (se_cmp c_gt (se_var 2) se_int) (se_and (se_call (c__law_in_run G) hr F.le (sa_cons (se_ix F (se_var 0) (se_var 2)) sa_nil)) (se_one (se_call (c__law_in_run G) hr F.le (sa_cons (se_ix F (se_var 0) (se_sub (se_var 2) se_int)) sa_nil))))))
    (ss_one (ss_if (sb_tru (se_var 3)) (ss_one (ss_itemN 1 (se_tup (sa_cons (se_ix F (se_ix F (se_var 1) (se_neg se_int)) se_int) (sa_cons (se_add (se_ix F (se_ix F (se_var 1) (se_neg se_int)) se_int) (se_ix F (se_var 0) (se_var 2))) sa_nil))) (se_neg se_int))) (ss_one (ss_if (sb_cmp (c_ni F) (se_ix F (se_var 0) (se_var 2)) se_str) (ss_one (ss_app 1 (se_tup (sa_cons (se_var 2) (sa_cons (se_ix F (se_var 0) (se_var 2)) sa_nil))))) ss_nil))))))
    (ss_freeze 1 (ss_one (ss_ret (se_var 1))))))⟩
theorem c__law_pairs (G : Glb w K mg) : Cal P w K mg base XR "_law_pairs" 2 1 f__law_pairs := by
  obtain ⟨fd, F⟩ := G.D__law_pairs
  exact cal_of F G.a__law_pairs s__law_pairs (fun _ _ _ _ _ _ us hl => match us, hl with | [_], _ => rfl) rfl rfl (b__law_pairs G)

def N__law_good : List Str := ["_law_token_here"]
theorem s__law_good : FnScope N__law_good ["_law_token_here"] (defScope (T 14)) := ⟨rfl, rfl, rfl, by decide +kernel, rfl, by decide +kernel, by decide +kernel⟩
set_option maxHeartbeats 0 in
theorem b__law_good (G : Glb w K mg) : Body P w K mg base XR 1 N__law_good "_law_good" (defScope (T 14)) (defBody (T 14)) m__law_good := by
  intro f cd A outer s H E W X tk F hr
  have nd : X.N.Nodup := s__law_good.nd
  exact ⟨_, (ss_cons (ss_if (sb_w (sw_and (sb_cmp (c_eq F) (se_len G.u_len (sa_cons (se_var 0) sa_nil)) se_int) (sw_and1 (sb_not (sb_tru (se_call (c__law_in_run G) hr F.le (sa_cons (se_var 0) sa_nil))))))) (ss_one (ss_ret (se_cmp (c_in F) (se_var 0) se_str))) ss_nil)
    (ss_one (ss_ret (se_and (se_cmp (c_ni F) (se_ix F (se_var 0) se_int) se_str) (se_one (se_cmp c_le (se_len G.u_len (sa_cons (se_var 0) sa_nil)) se_int))))))⟩
theorem c__law_good (G : Glb w K mg) : Cal P w K mg base XR "_law_good" 2 1 f__law_good := by
  obtain ⟨fd, F⟩ := G.D__law_good
  exact cal_of F G.a__law_good s__law_good (fun _ _ _ _ _ _ us hl => match us, hl with | [_], _ => rfl) rfl rfl (b__law_good G)

def N_law : List Str := ["_law_script", "_law_blanks", "_law_text", "_law_raw", "_law_expected", "_law_cell", "_law_pair", "_law_parts_here", "_law_token_here", "_law_blank", "_law_actual"]
theorem s_law : FnScope N_law ["_law_script"] (defScope (T 18)) := ⟨rfl, rfl, rfl, by decide +kernel, rfl, by decide +kernel, by decide +kernel⟩
set_option maxHeartbeats 0 in
theorem b_law (G : Glb w K mg) : Body P w K mg base XR 2 N_law "law" (defScope (T 18)) (defBody (T 18)) m_law := by
  intro f cd A outer s H E W X tk F hr
  have nd : X.N.Nodup := s_law.nd
  exact ⟨_, (ss_cons (ss_set 1 (se_lst (sa_cons se_str (sa_cons se_str (sa_cons se_str (sa_cons se_str (sa_cons se_str (sa_cons se_str (sa_cons se_str sa_nil)))))))))
    (ss_cons (ss_set 2 se_str)
    (ss_cons (ss_set 3 se_str)
    (ss_cons (ss_own 4 (sf_lst sa_nil))
    (ss_cons (ss_for F (si_seq (se_cut (se_var 0) so_none (so_some se_int))) (sg_name 5) (ss_cons (ss_set 7 (se_call (c__law_parts G) (hr.mono (by decide)) F.le (sa_cons (se_var 5) (sa_cons (se_lst (sa_cons se_int (sa_cons (se_pow se_int se_int) (sa_cons se_int (sa_cons se_int (sa_cons se_int (sa_cons se_int (sa_cons se_int (sa_cons se_int (sa_cons se_int sa_nil)))))))))) sa_nil))))
    (ss_cons (ss_set 8 (se_call (c__law_token G) hr F.le (sa_cons (se_var 7) sa_nil)))
    (ss_cons (ss_set 9 (se_ix F (se_var 1) (se_ix F (se_var 7) se_int)))
    (ss_cons (ss_if (sb_w (sw_and (sb_cmp (c_ne F) (se_var 2) se_str) (sw_and (sb_cmp (c_eq F) (se_var 9) se_str) (sw_and (sb_tru (se_call (c__law_in_run G) (hr.mono (by decide)) F.le (sa_cons (se_ix F (se_var 2) (se_neg se_int)) sa_nil))) (sw_and1 (sb_tru (se_call (c__law_in_run G) (hr.mono (by decide)) F.le (sa_cons (se_ix F (se_var 8) se_int) sa_nil)))))))) (ss_one (ss_set 9 se_str)) ss_nil)
    (ss_cons (ss_set 2 (se_add (se_var 2) (se_var 9)))
    (ss_cons (ss_app 4 (se_tup (sa_cons (se_len G.u_len (sa_cons (se_var 2) sa_nil)) (sa_cons (se_var 8) sa_nil))))
    (ss_cons (ss_set 2 (se_add (se_var 2) (se_var 8)))
    (ss_one (ss_set 3 (se_add (se_add (se_add (se_var 3) (se_call (c__law_char G) (hr.mono (by decide)) F.le (sa_cons (se_ix F (se_var 7) se_int) sa_nil))) (se_call (c__law_char G) (hr.mono (by decide)) F.le (sa_cons (se_ix F (se_var 7) se_int) sa_nil))) (se_call (c__law_char G) (hr.mono (by decide)) F.le (sa_cons (se_ix F (se_var 7) se_int) sa_nil)))))))))))))
    (ss_freeze 4 (ss_cons (ss_if (sb_cmp c_gt (se_len G.u_len (sa_cons (se_var 0) sa_nil)) se_int) (ss_one (ss_set 2 (se_add (se_var 2) (se_ix F (se_var 1) (se_mod (se_intOf G.u_int (sa_cons (se_ix F (se_var 0) (se_neg se_int)) sa_nil)) se_int))))) ss_nil)
    (ss_cons (ss_if (sb_w (sw_or (sb_not (sb_tru (se_call (c__law_same G) hr F.le (sa_cons (se_call (c_split_tokens G) hr F.le (sa_cons (se_var 2) sa_nil)) (sa_cons (se_var 4) sa_nil))))) (sw_or1 (sb_not (sb_tru (se_call (c__law_same G) hr F.le (sa_cons (se_call (c_split_tokens G) hr F.le (sa_cons (se_var 3) sa_nil)) (sa_cons (se_call (c__law_pairs G) hr F.le (sa_cons (se_var 3) sa_nil)) sa_nil)))))))) (ss_one (ss_ret se_bl)) ss_nil)
    (ss_cons (ss_for F (si_seq (se_var 4)) (sg_name 6) (ss_cons (ss_set 10 (se_call (c_is_good G) hr F.le (sa_cons (se_ix F (se_var 6) se_int) sa_nil)))
    (ss_one (ss_if (sb_w (sw_or (sb_not (sb_tru (se_isi (u := .bool) G.u_isinstance G.u_bool bi_bool (se_var 10)))) (sw_or1 (sb_cmp (c_ne F) (se_var 10) (se_call (c__law_good G) hr F.le (sa_cons (se_ix F (se_var 6) se_int) sa_nil)))))) (ss_one (ss_ret se_bl)) ss_nil))))
    (ss_one (ss_ret se_bl)))))))))))⟩
theorem c_law (G : Glb w K mg) : Cal P w K mg base XR "law" 3 1 f_law := by
  obtain ⟨fd, F⟩ := G.D_law
  exact cal_of F G.a_law s_law (fun _ _ _ _ _ _ us hl => match us, hl with | [_], _ => rfl) rfl rfl (b_law G)

end
end K01
end Vm

namespace Vm
namespace K01
open PySem L2 PyProof.Rows
def d__law_parts : He.DefD := ⟨("_law_parts", none), "_law_parts", "_law_parts", defArgs (T 9), defBody (T 9), defScope (T 9), [], []⟩
def d__law_run : He.DefD := ⟨("_law_run", none), "_law_run", "_law_run", defArgs (T 11), defBody (T 11), defScope (T 11), [], []⟩
def d__law_token : He.DefD := ⟨("_law_token", none), "_law_token", "_law_token", defArgs (T 12), defBody (T 12), defScope (T 12), [], []⟩
def d_is_word : He.DefD := ⟨("is_word", none), "is_word", "is_word", defArgs (T 6), defBody (T 6), defScope (T 6), [], []⟩
def d_is_good : He.DefD := ⟨("is_good", none), "is_good", "is_good", defArgs (T 7), defBody (T 7), defScope (T 7), [], []⟩
def d__law_in_run : He.DefD := ⟨("_law_in_run", none), "_law_in_run", "_law_in_run", defArgs (T 13), defBody (T 13), defScope (T 13), [], []⟩
def d__law_char : He.DefD := ⟨("_law_char", none), "_law_char", "_law_char", defArgs (T 15), defBody (T 15), defScope (T 15), [], []⟩
def d__law_is_integer : He.DefD := ⟨("_law_is_integer", none), "_law_is_integer", "_law_is_integer", defArgs (T 10), defBody (T 10), defScope (T 10), [], []⟩
def d__law_same : He.DefD := ⟨("_law_same", none), "_law_same", "_law_same", defArgs (T 17), defBody (T 17), defScope (T 17), [], []⟩
def d_token_end : He.DefD := ⟨("token_end", none), "token_end", "token_end", defArgs (T 4), defBody (T 4), defScope (T 4), [], []⟩
def d_split_tokens : He.DefD := ⟨("split_tokens", none), "split_tokens", "split_tokens", defArgs (T 5), defBody (T 5), defScope (T 5), [], []⟩
def d__law_pairs : He.DefD := ⟨("_law_pairs", none), "_law_pairs", "_law_pairs", defArgs (T 16), defBody (T 16), defScope (T 16), [], []⟩
def d__law_good : He.DefD := ⟨("_law_good", none), "_law_good", "_law_good", defArgs (T 14), defBody (T 14), defScope (T 14), [], []⟩
def d_law : He.DefD := ⟨("law", none), "law", "law", defArgs (T 18), defBody (T 18), defScope (T 18), [], []⟩
def hFn : List He.DefD := [d__law_parts, d__law_run, d__law_token, d_is_word, d_is_good, d__law_in_run, d__law_char, d__law_is_integer, d__law_same, d_token_end, d_split_tokens, d__law_pairs, d__law_good, d_law]
def hFa : List He.Fa := [.free "range", .free "len", .free "int", .free "isinstance", .free "bool", .free "list", .free "tuple", .free "str", .free "max", .str "LETTERS" "abcdefghijklmnopqrstuvwxyz", .int "LONGEST_WORD" 8, .str "RUN_CHARACTERS" "abcdefghijklmnopqrstuvwxyz0123456789", .glo "_law_parts", .glo "_law_run", .glo "_law_token", .glo "is_word", .glo "is_good", .glo "_law_in_run", .glo "_law_char", .glo "_law_is_integer", .glo "_law_same", .glo "token_end", .glo "split_tokens", .glo "_law_pairs", .glo "_law_good", .glo "law"]
def hTs : List He.Tab := []
def hEs : List (PySem.W.Frag → Bool) := []
def hEx (K : PySem.W.Frag) : Bool := hEs.all fun f => f K
def loose : List PySem.Str := ["LETTERS", "RUN_CHARACTERS", "LONGEST_WORD", "token_end", "split_tokens", "is_word", "is_good", "_law_parts", "_law_is_integer", "_law_run", "_law_token", "_law_in_run", "_law_good", "_law_char", "_law_pairs", "_law_same"]
abbrev RwL : PySem.W.OpenRow := PySem.W.OpenLaw.row PySem.Challenge.rw_gatesread_k01_split_tokens
abbrev hk : PySem.W.Hook := He.hookX 4 hFa hFn hTs [] hEx
def ob (s : PySem.W.SharedT) : He.AlX := He.obsX 4 hFa hFn hTs [] hEx (HandSHeadRun.getT s)
theorem ob_eq (s : PySem.W.SharedT) : ob s = hk.obs s.abs := He.obsX_eq (HandSHeadRun.getT_eq s)
theorem hrun (w : World) : HandSHeadRun.RunEq RwL (PySem.W.view RwL.prog [18]) hk ob 4000 loose w := by
  intro os
  kernel_rfl
theorem ex_ok {K : PySem.W.Frag} (c : hEx K = true) (i : Nat) {f : PySem.W.Frag → Bool} (e : hEs[i]? = some f) : f K = true := List.all_eq_true.mp c f (List.mem_of_getElem? e)
theorem glb {w : World} {K : PySem.W.Frag} {h h' : Heap} {mg : Str → Option Value} (X : K.In h) (G0 : h.Ns mainGlobals mg) (c : He.SaysX hFa hFn hTs [] hEx w h' K) : Glb w K mg :=
  ⟨He.free_ok X G0 (c.t.d.fact 0 (f := .free "range") rfl),
   He.free_ok X G0 (c.t.d.fact 1 (f := .free "len") rfl),
   He.free_ok X G0 (c.t.d.fact 2 (f := .free "int") rfl),
   He.free_ok X G0 (c.t.d.fact 3 (f := .free "isinstance") rfl),
   He.free_ok X G0 (c.t.d.fact 4 (f := .free "bool") rfl),
   He.free_ok X G0 (c.t.d.fact 5 (f := .free "list") rfl),
   He.free_ok X G0 (c.t.d.fact 6 (f := .free "tuple") rfl),
   He.free_ok X G0 (c.t.d.fact 7 (f := .free "str") rfl),
   He.free_ok X G0 (c.t.d.fact 8 (f := .free "max") rfl),
   He.str_ok X G0 (c.t.d.fact 9 (f := .str "LETTERS" "abcdefghijklmnopqrstuvwxyz") rfl),
   He.int_ok X G0 (c.t.d.fact 10 (f := .int "LONGEST_WORD" 8) rfl),
   He.str_ok X G0 (c.t.d.fact 11 (f := .str "RUN_CHARACTERS" "abcdefghijklmnopqrstuvwxyz0123456789") rfl),
   He.glo_ok X G0 (c.t.d.fact 12 (f := .glo "_law_parts") rfl),
   c.t.d.def_ 0 (d := d__law_parts) rfl,
   He.glo_ok X G0 (c.t.d.fact 13 (f := .glo "_law_run") rfl),
   c.t.d.def_ 1 (d := d__law_run) rfl,
   He.glo_ok X G0 (c.t.d.fact 14 (f := .glo "_law_token") rfl),
   c.t.d.def_ 2 (d := d__law_token) rfl,
   He.glo_ok X G0 (c.t.d.fact 15 (f := .glo "is_word") rfl),
   c.t.d.def_ 3 (d := d_is_word) rfl,
   He.glo_ok X G0 (c.t.d.fact 16 (f := .glo "is_good") rfl),
   c.t.d.def_ 4 (d := d_is_good) rfl,
   He.glo_ok X G0 (c.t.d.fact 17 (f := .glo "_law_in_run") rfl),
   c.t.d.def_ 5 (d := d__law_in_run) rfl,
   He.glo_ok X G0 (c.t.d.fact 18 (f := .glo "_law_char") rfl),
   c.t.d.def_ 6 (d := d__law_char) rfl,
   He.glo_ok X G0 (c.t.d.fact 19 (f := .glo "_law_is_integer") rfl),
   c.t.d.def_ 7 (d := d__law_is_integer) rfl,
   He.glo_ok X G0 (c.t.d.fact 20 (f := .glo "_law_same") rfl),
   c.t.d.def_ 8 (d := d__law_same) rfl,
   He.glo_ok X G0 (c.t.d.fact 21 (f := .glo "token_end") rfl),
   c.t.d.def_ 9 (d := d_token_end) rfl,
   He.glo_ok X G0 (c.t.d.fact 22 (f := .glo "split_tokens") rfl),
   c.t.d.def_ 10 (d := d_split_tokens) rfl,
   He.glo_ok X G0 (c.t.d.fact 23 (f := .glo "_law_pairs") rfl),
   c.t.d.def_ 11 (d := d__law_pairs) rfl,
   He.glo_ok X G0 (c.t.d.fact 24 (f := .glo "_law_good") rfl),
   c.t.d.def_ 12 (d := d__law_good) rfl,
   He.glo_ok X G0 (c.t.d.fact 25 (f := .glo "law") rfl),
   c.t.d.def_ 13 (d := d_law) rfl⟩
theorem law_fn (pure : ∀ ns : List Int, ns.length ≤ 63 → f_law [.lst (ns.map Val.int)] = .ret (.bl true)) {P : Program} {w : World} {K : PySem.W.Frag} {h : Heap} {mg : Str → Option Value} {f : Addr} (X : K.In h) (G0 : h.Ns mainGlobals mg) (hfa : mg ("law" : Str) = some (.ref f)) (c : He.SaysX hFa hFn hTs [] hEx w h K) :
    ∃ (fd : FuncData) (sp : Sp), (∀ (s : Shared) (v : Value), BindsTo s fd ⟨[v], []⟩ [("_law_script", v)]) ∧ (∀ (H : Hp) (a : Addr) (ns : List Int), ns.length ≤ 63 → SqL K H a (ns.map V.int) → sp [.ref a] H (fun v _ => v = .bl true) fun _ _ _ => False) ∧
      ∀ base : Heap, K.In base → base.Ns mainGlobals mg → FnOk P w K mg base CX0 3 f fd ["_law_script"] sp := by
  have G := glb X G0 c
  obtain ⟨fd, F⟩ := G.D_law
  have e := hfa.symm.trans G.a_law
  cases e
  have b := FunD.bindsA (ps := ["_law_script"]) F fun _ _ _ _ _ _ us hl => match us, hl with | [_], _ => rfl
  refine ⟨fd, spLaw (spF K (fun _ _ _ _ => False) 1 f_law), fun s v => b s [v] rfl, fun H a ns hl hS => ?_, fun base _ _ => ?_⟩
  · exact law_sp (pure ns hl) hS
  · exact FnOk.to0 (fn_ok F s_law rfl rfl (b_law G))
open PySem PySem.W PySem.Calls PyProof.Rows
theorem gr_holds (pure : ∀ ns : List Int, ns.length ≤ 63 → f_law [.lst (ns.map Val.int)] = .ret (.bl true)) : PySem.Challenge.rw_gatesread_k01_split_tokens.Holds := by
  w_on; o_law
  refine HandSHeadRun.head_any (r := OpenLaw.row PySem.Challenge.rw_gatesread_k01_split_tokens) (q := view (OpenLaw.row PySem.Challenge.rw_gatesread_k01_split_tokens).prog [18]) (H := hk) (ob := ob) (M := 4000) (loose := loose) (d := HandSHeadRun.topDef (OpenLaw.row PySem.Challenge.rw_gatesread_k01_split_tokens).prog 18) (kwd := []) ob_eq
    (by kernel_rfl) (fun s => by kernel_rfl) hrun (by kernel_rfl) (by kernel_rfl) (by kernel_rfl) (by rfl) (by first | assumption | decide +kernel) (by decide +kernel) ⟨rfl, rfl, rfl, rfl, rfl, by decide +kernel⟩ ?hw ?hc
  case hw => w_witness2
  case hc =>
    refine L2.walk_ofE (l := PySem.Challenge.rw_gatesread_k01_split_tokens) (n := 63) (k := 3) (x := "_law_script") (CX := L2.CX0) rfl (by decide) (by kernel_rfl) ⟨rfl, by decide, by decide⟩ ?F (fun _ _ _ _ z => z)
    intro w mg fa h Y G hmg0
    obtain ⟨K, KX, c⟩ := Y
    have hmg : mg ("law" : PySem.Str) = some (.ref fa) := by
      have e : (HandSHeadRun.topDef (OpenLaw.row PySem.Challenge.rw_gatesread_k01_split_tokens).prog 18).name = ("law" : PySem.Str) := by kernel_rfl
      rw [← e]
      exact hmg0
    obtain ⟨fd, sp, hb, hs, hF⟩ := law_fn pure (P := (PySem.Challenge.rw_gatesread_k01_split_tokens).prog) (w := w) KX G hmg c
    exact ⟨K, fd, sp, KX, hb, fun H a ns hl _ hS => hs H a ns hl hS, hF⟩
end K01
end Vm

noncomputable section
namespace Vm
namespace K01
open PySem
/-! tokens of a text, the text a list of numbers -/
def runL : List Nat := [97,98,99,100,101,102,103,104,105,106,107,108,109,110,111,112,113,114,115,116,117,118,119,120,121,122,48,49,50,51,52,53,54,55,56,57]
def R (c : Nat) : Bool := decide (c ∈ runL)
def bl (c : Nat) : Bool := c == 32 || c == 10
theorem R_bl {c : Nat} (h : R c = true) : bl c = false := by
  have : ∀ c ∈ runL, bl c = false := by decide
  exact this c (of_decide_eq_true h)
theorem drop_lt (c : Nat) (r : List Nat) : (r.dropWhile R).length < (c :: r).length := by
  have : (r.dropWhile R).length ≤ r.length := by
    have h := List.takeWhile_append_dropWhile (p := R) (l := r)
    have h2 := congrArg List.length h
    rw [List.length_append] at h2
    omega
  simp; omega
def tokF (n : Nat) : List Nat → List (Nat × List Nat)
  | [] => []
  | c :: r => if bl c then tokF (n + 1) r else if R c then (n, c :: r.takeWhile R) :: tokF (n + 1 + (r.takeWhile R).length) (r.dropWhile R) else (n, [c]) :: tokF (n + 1) r
termination_by l => l.length
decreasing_by
  · simp
  · exact drop_lt c r
  · simp
theorem tokF_nil (n : Nat) : tokF n [] = [] := by rw [tokF]
theorem tokF_bl {n c : Nat} {r : List Nat} (h : bl c = true) : tokF n (c :: r) = tokF (n + 1) r := by rw [tokF, if_pos h]
theorem tokF_run {n c : Nat} {r : List Nat} (h : R c = true) : tokF n (c :: r) = (n, c :: r.takeWhile R) :: tokF (n + 1 + (r.takeWhile R).length) (r.dropWhile R) := by
  rw [tokF, if_neg (by rw [R_bl h]; simp), if_pos h]
theorem tokF_one {n c : Nat} {r : List Nat} (h : bl c = false) (h2 : R c = false) : tokF n (c :: r) = (n, [c]) :: tokF (n + 1) r := by
  rw [tokF, if_neg (by rw [h]; simp), if_neg (by rw [h2]; simp)]
/-- the text's last sign is of a run -/
def lastR (T : List Nat) : Bool := match T.getLast? with
  | some c => R c
  | none => false
def headR (T : List Nat) : Bool := match T with
  | c :: _ => R c
  | [] => false
theorem takeWhile_all {T : List Nat} (h : ∀ c ∈ T, R c = true) (S : List Nat) : (T ++ S).takeWhile R = T ++ S.takeWhile R := by
  induction T with
  | nil => rfl
  | cons c T ih =>
    rw [List.cons_append, List.takeWhile_cons, if_pos (h c List.mem_cons_self), ih fun d hd => h d (List.mem_cons_of_mem _ hd)]
    rfl
theorem dropWhile_all {T : List Nat} (h : ∀ c ∈ T, R c = true) (S : List Nat) : (T ++ S).dropWhile R = S.dropWhile R := by
  induction T with
  | nil => rfl
  | cons c T ih =>
    rw [List.cons_append, List.dropWhile_cons, if_pos (h c List.mem_cons_self), ih fun d hd => h d (List.mem_cons_of_mem _ hd)]
theorem lastR_cons (c d : Nat) (r : List Nat) : lastR (c :: d :: r) = lastR (d :: r) := by unfold lastR; rw [List.getLast?_cons_cons]
theorem append_tw : ∀ (r : List Nat) (c : Nat) (S : List Nat), R c = true → (lastR (c :: r) = true → headR S = false) → (r ++ S).takeWhile R = r.takeWhile R ∧ (r ++ S).dropWhile R = r.dropWhile R ++ S
  | [], c, S, hc, h => by
    have h : headR S = false := h (by unfold lastR; exact hc)
    cases S with
    | nil => exact ⟨rfl, rfl⟩
    | cons d S =>
      have h : R d = false := h
      simp [List.takeWhile_cons, List.dropWhile_cons, h]
  | d :: r, c, S, hc, h => by
    rw [lastR_cons] at h
    rw [List.cons_append, List.takeWhile_cons, List.takeWhile_cons, List.dropWhile_cons, List.dropWhile_cons]
    cases hd : R d with
    | true =>
      obtain ⟨h1, h2⟩ := append_tw r d S hd h
      simp only [if_true]
      exact ⟨by rw [h1], h2⟩
    | false => simp
theorem lastR_dw : ∀ (r : List Nat) (c : Nat), lastR (r.dropWhile R) = true → lastR (c :: r) = true
  | [], c, h => by simp [lastR] at h
  | d :: r, c, h => by
    rw [lastR_cons]
    rw [List.dropWhile_cons] at h
    split at h
    · exact lastR_dw r d h
    · exact h
theorem tokF_append : ∀ (k : Nat) (T : List Nat) (n : Nat) (S : List Nat), T.length ≤ k → (lastR T = true → headR S = false) → tokF n (T ++ S) = tokF n T ++ tokF (n + T.length) S := by
  intro k
  induction k with
  | zero =>
    intro T n S hk h
    have : T = [] := List.eq_nil_of_length_eq_zero (by omega)
    subst this
    rw [tokF_nil]; rfl
  | succ k ih =>
    intro T n S hk h
    cases T with
    | nil => rw [tokF_nil]; rfl
    | cons c r =>
      have hr : lastR r = true → headR S = false := fun q => h (by
        cases r with
        | nil => simp [lastR] at q
        | cons d r => rw [lastR_cons]; exact q)
      rw [List.cons_append]
      rw [List.length_cons] at hk ⊢
      cases hb : bl c with
      | true => rw [tokF_bl hb, tokF_bl hb, ih r (n + 1) S (by omega) hr, show n + 1 + r.length = n + (r.length + 1) by omega]
      | false =>
        cases hR : R c with
        | false => rw [tokF_one hb hR, tokF_one hb hR, ih r (n + 1) S (by omega) hr, show n + 1 + r.length = n + (r.length + 1) by omega]; rfl
        | true =>
          obtain ⟨h1, h2⟩ := append_tw r c S hR h
          rw [tokF_run hR, tokF_run hR, h1, h2]
          have hl : (r.takeWhile R).length + (r.dropWhile R).length = r.length := by
            have := congrArg List.length (List.takeWhile_append_dropWhile (p := R) (l := r))
            rw [List.length_append] at this
            exact this
          rw [ih (r.dropWhile R) _ S (by omega) (fun q => h (lastR_dw r c q)), show n + 1 + (r.takeWhile R).length + (r.dropWhile R).length = n + (r.length + 1) by omega]
          rfl
/-- one token: a run, or a sign that is neither of a run nor a blank -/
def Tok (t : List Nat) : Prop := (t ≠ [] ∧ ∀ c ∈ t, R c = true) ∨ ∃ c, t = [c] ∧ R c = false ∧ bl c = false
theorem tokF_tok {t : List Nat} (h : Tok t) (n : Nat) : tokF n t = [(n, t)] := by
  rcases h with ⟨h0, h⟩ | ⟨c, rfl, h1, h2⟩
  · cases t with
    | nil => exact absurd rfl h0
    | cons c r =>
      have e := takeWhile_all (T := r) (fun d hd => h d (List.mem_cons_of_mem _ hd)) []
      have e2 := dropWhile_all (T := r) (fun d hd => h d (List.mem_cons_of_mem _ hd)) []
      rw [List.append_nil] at e e2
      rw [tokF_run (h c List.mem_cons_self), e, e2]
      simp [tokF_nil]
  · rw [tokF_one h2 h1, tokF_nil]
theorem tokF_blanks : ∀ (b : List Nat) (n : Nat) (S : List Nat), (∀ c ∈ b, bl c = true) → tokF n (b ++ S) = tokF (n + b.length) S
  | [], n, S, _ => rfl
  | c :: b, n, S, h => by
    rw [List.cons_append, tokF_bl (h c List.mem_cons_self), tokF_blanks b (n + 1) S fun d hd => h d (List.mem_cons_of_mem _ hd), List.length_cons, show n + 1 + b.length = n + (b.length + 1) by omega]
/-- the text grows by blanks and a token -/
theorem tokF_grow {T b t : List Nat} (hb : ∀ c ∈ b, bl c = true) (ht : Tok t) (hs : lastR T = true → b = [] → headR t = false) : tokF 0 (T ++ b ++ t) = tokF 0 T ++ [(T.length + b.length, t)] := by
  rw [List.append_assoc, tokF_append T.length T 0 (b ++ t) (Nat.le_refl _) (fun q => by
    cases b with
    | nil => exact hs q rfl
    | cons c b =>
      show R c = false
      cases hc : R c with
      | false => rfl
      | true => have := R_bl hc; rw [hb c List.mem_cons_self] at this; cases this), Nat.zero_add, tokF_blanks b _ t hb, tokF_tok ht]
theorem tokF_end {T b : List Nat} (hb : ∀ c ∈ b, bl c = true) : tokF 0 (T ++ b) = tokF 0 T := by
  rw [tokF_append T.length T 0 b (Nat.le_refl _) (fun q => by
    cases b with
    | nil => rfl
    | cons c b =>
      show R c = false
      cases hc : R c with
      | false => rfl
      | true => have := R_bl hc; rw [hb c List.mem_cons_self] at this; cases this)]
  have h := tokF_blanks b (0 + T.length) [] hb
  rw [List.append_nil, tokF_nil] at h
  rw [h, List.append_nil]
theorem drop_tw : ∀ l : List Nat, l.drop (l.takeWhile R).length = l.dropWhile R
  | [] => rfl
  | c :: l => by
    rw [List.takeWhile_cons, List.dropWhile_cons]
    split
    · rw [List.length_cons, List.drop_succ_cons, drop_tw l]
    · rfl
theorem take_tw : ∀ l : List Nat, l.take (l.takeWhile R).length = l.takeWhile R
  | [] => rfl
  | c :: l => by
    rw [List.takeWhile_cons]
    split
    · rw [List.length_cons, List.take_succ_cons, take_tw l]
    · rfl
/-- the last run of a text that ends with one -/
theorem last_run : ∀ (k : Nat) (T : List Nat), T.length ≤ k → lastR T = true → ∃ T' w, T = T' ++ w ∧ w ≠ [] ∧ (∀ c ∈ w, R c = true) ∧ lastR T' = false
  | 0, T, h, hl => by
    have : T = [] := List.eq_nil_of_length_eq_zero (by omega)
    subst this
    cases hl
  | k + 1, T, h, hl => by
    have hne : T ≠ [] := by intro q; subst q; cases hl
    have hT : T = T.dropLast ++ [T.getLast hne] := (List.dropLast_concat_getLast hne).symm
    have hR : R (T.getLast hne) = true := by
      unfold lastR at hl
      rw [List.getLast?_eq_some_getLast hne] at hl
      exact hl
    cases hd : lastR T.dropLast with
    | false => exact ⟨T.dropLast, [T.getLast hne], hT, by simp, fun c hc => by rw [List.mem_singleton] at hc; subst hc; exact hR, hd⟩
    | true =>
      obtain ⟨T', w, e, hw, ha, hf⟩ := last_run k T.dropLast (by rw [List.length_dropLast]; omega) hd
      refine ⟨T', w ++ [T.getLast hne], by rw [← List.append_assoc, ← e]; exact hT, by simp, fun c hc => ?_, hf⟩
      rcases List.mem_append.mp hc with hc | hc
      · exact ha c hc
      · rw [List.mem_singleton] at hc; subst hc; exact hR
/-- one sign more -/
theorem tokF_snoc (T : List Nat) (c : Nat) : (lastR T = true ∧ R c = true ∧ ∃ E n w, tokF 0 T = E ++ [(n, w)] ∧ tokF 0 (T ++ [c]) = E ++ [(n, w ++ [c])] ∧ w.length ≤ T.length) ∨
    (¬ (lastR T = true ∧ R c = true) ∧ tokF 0 (T ++ [c]) = tokF 0 T ++ (if bl c then [] else [(T.length, [c])])) := by
  by_cases h : lastR T = true ∧ R c = true
  · obtain ⟨h1, h2⟩ := h
    obtain ⟨T', w, e, hw, ha, hf⟩ := last_run T.length T (Nat.le_refl _) h1
    refine .inl ⟨h1, h2, tokF 0 T', T'.length, w, ?_, ?_, by rw [e, List.length_append]; omega⟩
    · rw [e, tokF_append T'.length T' 0 w (Nat.le_refl _) (fun q => by rw [hf] at q; cases q), Nat.zero_add, tokF_tok (.inl ⟨hw, ha⟩)]
    · have ht : Tok (w ++ [c]) := .inl ⟨by simp, fun d hd => by
        rcases List.mem_append.mp hd with hd | hd
        · exact ha d hd
        · rw [List.mem_singleton] at hd; subst hd; exact h2⟩
      rw [e, List.append_assoc, tokF_append T'.length T' 0 (w ++ [c]) (Nat.le_refl _) (fun q => by rw [hf] at q; cases q), Nat.zero_add, tokF_tok ht]
  · refine .inr ⟨h, ?_⟩
    rw [tokF_append T.length T 0 [c] (Nat.le_refl _) (fun q => by
      show R c = false
      cases hc : R c with
      | false => rfl
      | true => exact absurd ⟨q, hc⟩ h), Nat.zero_add]
    congr 1
    cases hb : bl c with
    | true => rw [tokF_bl hb, tokF_nil]; rfl
    | false =>
      cases hR : R c with
      | true => rw [tokF_run hR]; simp [tokF_nil]
      | false => rw [tokF_one hb hR, tokF_nil]; rfl
theorem tokF_len : ∀ (k : Nat) (T : List Nat) (n : Nat), T.length ≤ k → (tokF n T).length ≤ T.length
  | 0, T, n, h => by
    have : T = [] := List.eq_nil_of_length_eq_zero (by omega)
    subst this
    rw [tokF_nil]; simp
  | k + 1, [], n, h => by rw [tokF_nil]; simp
  | k + 1, c :: r, n, h => by
    rw [List.length_cons] at h ⊢
    cases hb : bl c with
    | true => rw [tokF_bl hb]; have := tokF_len k r (n + 1) (by omega); omega
    | false =>
      cases hR : R c with
      | false => rw [tokF_one hb hR, List.length_cons]; have := tokF_len k r (n + 1) (by omega); omega
      | true =>
        have hl : (r.takeWhile R).length + (r.dropWhile R).length = r.length := by
          have := congrArg List.length (List.takeWhile_append_dropWhile (p := R) (l := r))
          rw [List.length_append] at this
          exact this
        rw [tokF_run hR, List.length_cons]
        have := tokF_len k (r.dropWhile R) (n + 1 + (r.takeWhile R).length) (by omega)
        omega
end K01
end Vm
end

noncomputable section
namespace Vm
namespace K01
open PySem
local macro_rules | `(tactic| simp! [$ts,*]) => `(tactic| simp only [Ok_seq, sSet, sSetN, sOwn, sOwnN, sAppend, sAppendN, sFreeze, sForget, sIf, sRet, sRetN, sNext, sPut, sDrop, sAug, sOn, sItem, sItemN, itemPut, sBreak, sCont, hide, Slot.hide, eVar, eC, e1, e2, eArgs, eAnd, eOr, eNot, eIf, eChain, eCall, eCut, partOf, aNil, aCons, asBl, bVal, bTruth, bAnd, bOr, bNot, bYes, truth, vAdd_int, vAdd_lst, vAdd_tup, vSub, vMul_int, vDiv_int, vMod_int, vPow18, vPow12, vPow11, vPow9, vPow6, vNeg, vLt, vLe, vGt, vGe, vEq, vNe, eqR_int, eqR_bl, eqR_str, vIsi, vTup, vLst, vLen_lst, vLen_tup, vInt, vIs, vIsNot, vIx_lst, vIx_tup, vIx_dct, vListOf, vTupOf, vIpAdd, vMax2, vMax3, vMin2, Val.ty, Ty.sub, noLst_int, noLst_bl, noLst_str, noLst_non, noLst_tup, noLsts_nil, noLsts_cons, noLsts_ints, pName, pTup, pTupL, putAll, iSeq, itemsOf, iRange1, iRange2, DR.res, Res.ofOpt_some, Res.ofOpt_none, Res.bind_ok, Res.bind_exc, Res.bind_bad, Res.nx_ok, Res.flow_ok, Res.flow_bad, Flow.bind_next, Flow.bind_ret, Flow.bind_brk, Flow.bind_cont, Flow.bind_bad, Ok_next, Ok_ret, Ok_brk, Ok_cont, Ok_bind, Ok_cond, Ok_ite, Ok_ofOpt, flow_ite, bind_ite, nx_ite', flow_cond, bind_cond, cond_andV, cond_orV, cond_and, cond_or, atI_nat, atI_0, atI_1, atI_lit, startE, List.map_cons, List.map_nil, List.length_cons, List.length_nil, List.getElem?_cons_zero, List.getElem?_cons_succ, List.set_cons_zero, List.set_cons_succ, List.set_nil, List.replicate, List.append_nil, List.cons_append, List.nil_append, Nat.sub_self, Nat.reduceAdd, Nat.reduceSub, Nat.reduceLT, Nat.reduceLeDiff, Nat.reduceEqDiff, Int.reduceLE, Int.reduceLT, Int.reduceToNat, Int.reducePow, Int.reduceMul, Int.reduceAdd, Int.reduceSub, Int.reduceNeg, Int.cast_ofNat_Int, if_true, if_false, ↓reduceIte, reduceCtorEq, beq_self_eq_true, and_true, true_and, decide_eq_true_eq, decide_eq_false_iff_not, Bool.not_eq_true', Bool.not_eq_false', Bool.and_true, Bool.true_and, Bool.or_true, Bool.and_false, Bool.or_false, Bool.false_or, Bool.true_or, Bool.false_and, Bool.not_true, Bool.not_false, beq_iff_eq, forall_const, false_implies, Option.map_some, decide_true, decide_false, cond_true, cond_false, $ts,*])
theorem parts_k (c : Int) (sizes : List Int) (hs : ∀ n ∈ sizes, 0 < n ∧ n < 18446744073709551616) (hl : sizes.length ≤ 100) : ∃ ps : List Int, f__law_parts [.int c, .lst (sizes.map .int)] = .ret (.lst (ps.map .int)) ∧ Parts ps sizes := by
  obtain ⟨y, h, ps, rfl, hp⟩ := parts_ok c sizes hs hl
  exact ⟨ps, h, hp⟩
theorem int_k (z : Int) : f__law_is_integer [.int z] = .ret (.bl true) := rfl
theorem lrun : ("abcdefghijklmnopqrstuvwxyz0123456789" : Str) = S runL := by decide
theorem l_sp : (" " : Str) = S [32] := by decide
theorem l_nl : ("\n" : Str) = S [10] := by decide
theorem l_e : ("" : Str) = S [] := by decide
theorem l_snl : (" \n" : Str) = S [32, 10] := by decide
theorem in_run (c : Nat) : f__law_in_run [.str (S [c])] = .ret (.bl (R c)) := by
  refine defn_ret rfl ?_
  unfold m__law_in_run
  simp! [lrun, vIn_S]
  rfl
theorem char_at (T : List Nat) (i : Nat) (h : i < T.length) : atI T (i : Int) = some T[i] := by rw [atI_nat, List.getElem?_eq_getElem h]
theorem token_end_ok (T : List Nat) (s : Nat) (hs : s < T.length) (hT : T.length < 90000) : f_token_end [.str (S T), .int s] = .ret (.int ((s + max 1 ((T.drop s).takeWhile R).length : Nat) : Int)) := by
  refine defn_ret rfl ?_
  unfold m_token_end
  simp! []
  refine Then.mk ?_; unfold m_token_end_1; simp! []
  unfold m_token_end_b_F
  refine Ok_while (whileL_ok (fun k env => ∃ e : Nat, env = [.sh (.str (S T)), .sh (.int s), .sh (.int e)] ∧ s ≤ e ∧ e ≤ T.length ∧ k = T.length - e ∧ ((T.drop s).takeWhile R).length = (e - s) + ((T.drop e).takeWhile R).length) ?_ _ (T.length - s) _ (by omega) ⟨s, rfl, Nat.le_refl _, by omega, rfl, by omega⟩)
  rintro k env ⟨e, rfl, h1, h2, rfl, h3⟩
  have hlen : vLen [.str (S T)] = .ok (.int T.length) := vLen_S (by omega)
  by_cases he : e < T.length
  · have hc := vIx_S (l := T) (i := (e : Int)) (by omega) (char_at T e he)
    have he' : ((e : Int) < (T.length : Int)) := by omega
    have hd : T.drop e = T[e] :: T.drop (e + 1) := List.drop_eq_getElem_cons he
    refine ⟨R T[e], by simp! [hlen, hc, he', lrun, vIn_S]; rfl, fun hb => ?_, fun hb => ?_⟩
    · unfold m_token_end_b_L
      simp! []
      refine ⟨T.length - (e + 1), by omega, e + 1, ?_, by omega, by omega, rfl, ?_⟩
      · simp
      · rw [h3, hd, List.takeWhile_cons, if_pos hb, List.length_cons]; omega
    · refine Then.mk ?_; unfold m_token_end_2; simp! []
      have : ((T.drop e).takeWhile R).length = 0 := by rw [hd, List.takeWhile_cons, hb]; rfl
      rw [h3, this]
      congr 1
      omega
  · have he' : ¬ ((e : Int) < (T.length : Int)) := by omega
    refine ⟨false, by simp! [hlen, he'], fun hb => (nomatch hb), fun _ => ?_⟩
    refine Then.mk ?_; unfold m_token_end_2; simp! []
    have : ((T.drop e).takeWhile R).length = 0 := by rw [List.drop_eq_nil_of_le (by omega)]; rfl
    rw [h3, this]
    congr 1
    omega
def enc (p : Nat × List Nat) : Val := .tup [.int p.1, .str (S p.2)]
theorem split_ok (T : List Nat) (hT : T.length < 90000) : f_split_tokens [.str (S T)] = .ret (.lst ((tokF 0 T).map enc)) := by
  refine defn_ret rfl ?_
  unfold m_split_tokens
  simp! []
  refine Then.mk ?_; unfold m_split_tokens_1; simp! []
  refine Then.mk ?_; unfold m_split_tokens_2; simp! []
  unfold m_split_tokens_c_F
  have hlen : vLen [.str (S T)] = .ok (.int T.length) := vLen_S (by omega)
  refine Ok_while (whileL_ok (fun k env => ∃ (s : Nat) (E : List (Nat × List Nat)) (s3 : Slot), env = [.sh (.str (S T)), .oL (E.map enc), .sh (.int s), s3] ∧ s ≤ T.length ∧ k = T.length - s ∧ E.length ≤ s ∧ tokF 0 T = E ++ tokF s (T.drop s)) ?_ _ (T.length - 0) _ (by omega) ⟨0, [], _, rfl, by omega, rfl, by simp, by simp⟩)
  rintro k env ⟨s, E, s3, rfl, h1, rfl, h2, h3⟩
  by_cases hs : s < T.length
  · have hc := vIx_S (l := T) (i := (s : Int)) (by omega) (char_at T s hs)
    have hs' : ((s : Int) < (T.length : Int)) := by omega
    have hd : T.drop s = T[s] :: T.drop (s + 1) := List.drop_eq_getElem_cons hs
    refine ⟨true, by simp! [hlen, hs'], fun _ => ?_, fun h => (nomatch h)⟩
    unfold m_split_tokens_c_L
    simp! [hc, l_sp, l_nl, S_beq]
    have hbl : (decide ([T[s]] = [32]) || decide ([T[s]] = [10])) = bl T[s] := by
      unfold bl
      rw [Bool.eq_iff_iff]
      simp
    rw [hbl]
    refine ⟨fun h => ?_, fun h => ?_⟩
    · refine ⟨T.length - (s + 1), by omega, s + 1, E, s3, by simp, by omega, rfl, by omega, ?_⟩
      rw [h3, hd, tokF_bl h]
    · have ht := token_end_ok T s hs hT
      let L := max 1 ((T.drop s).takeWhile R).length
      have hL : L = max 1 ((T.drop s).takeWhile R).length := rfl
      have hle : ((T.drop s).takeWhile R).length ≤ T.length - s := by
        have h1 := congrArg List.length (List.takeWhile_append_dropWhile (p := R) (l := T.drop s))
        rw [List.length_append, List.length_drop] at h1
        omega
      rw [← hL] at ht
      have hcut := vCut_S (l := T) (some (s : Int)) (some ((s + L : Nat) : Int)) (by omega)
      rw [cut_nat T s (s + L) (by omega) (by omega)] at hcut
      simp! [ht]
      refine Then.mk ?_; unfold m_split_tokens_cae_1; simp! [hcut, List.length_map]
      refine ⟨by omega, ?_⟩
      refine Then.mk ?_; unfold m_split_tokens_cae_2; simp! []
      refine ⟨T.length - (s + L), by omega, s + L, E ++ [(s, (T.drop s).take (s + L - s))], _, by rw [List.map_append]; rfl, by omega, rfl, by rw [List.length_append, List.length_singleton]; omega, ?_⟩
      rw [h3, List.append_assoc]
      congr 1
      cases hR : R T[s] with
      | true =>
        have hd2 := hd
        rw [hd, tokF_run hR]
        have hl2 : L = 1 + ((T.drop (s + 1)).takeWhile R).length := by
          rw [hL, hd, List.takeWhile_cons, if_pos hR, List.length_cons]; omega
        have hsplit := List.takeWhile_append_dropWhile (p := R) (l := T.drop (s + 1))
        have e1 : T.drop (s + L) = (T.drop (s + 1)).dropWhile R := by
          rw [hl2, show s + (1 + ((T.drop (s + 1)).takeWhile R).length) = (s + 1) + ((T.drop (s + 1)).takeWhile R).length by omega, ← List.drop_drop]
          exact drop_tw _
        have e2 : (T[s] :: T.drop (s + 1)).take (s + L - s) = T[s] :: (T.drop (s + 1)).takeWhile R := by
          rw [show s + L - s = ((T.drop (s + 1)).takeWhile R).length + 1 by omega, List.take_succ_cons]
          congr 1
          exact take_tw _
        rw [e1, e2, show s + L = s + 1 + ((T.drop (s + 1)).takeWhile R).length by omega]
        rfl
      | false =>
        have hl2 : L = 1 := by rw [hL, hd, List.takeWhile_cons, hR]; rfl
        rw [hl2, hd, tokF_one h hR, show s + 1 - s = 1 by omega]
        rfl
  · have hs' : ¬ ((s : Int) < (T.length : Int)) := by omega
    refine ⟨false, by simp! [hlen, hs'], fun h => (nomatch h), fun _ => ?_⟩
    have : s = T.length := by omega
    subst this
    rw [List.drop_length, tokF_nil, List.append_nil] at h3
    refine Then.mk ?_; unfold m_split_tokens_3; simp! []
    refine Then.mk ?_; unfold m_split_tokens_4; simp! []
    rw [h3]
def signsL : List Nat := [61, 59, 33, 34, 35, 36, 38, 39, 40, 41, 42, 43, 44, 45, 46, 47, 58, 60, 62, 63, 64, 65, 66, 67, 68, 69, 70, 71, 72, 73, 74, 75, 76, 77, 78, 79, 80, 81, 82, 83, 84, 85, 86, 87, 88, 89, 90, 91, 92, 93, 94, 95, 96, 123, 124, 125, 126]
def ch1 : List Nat := [32, 33, 34, 35, 36, 38, 39, 40, 41, 42, 43, 44, 45, 46, 47, 48, 49, 50, 51, 52, 53, 54, 55, 56, 57, 58, 59, 60, 61, 62, 63, 64, 65, 66, 67, 68, 69, 70, 71, 72, 73, 74, 75, 76, 77, 78, 79, 80, 81, 82, 83, 84, 85, 86, 87, 88, 89, 90, 91, 92, 93, 94, 95, 96]
def ch2 : List Nat := [97, 98, 99, 100, 101, 102, 103, 104, 105, 106, 107, 108, 109, 110, 111, 112, 113, 114, 115, 116, 117, 118, 119, 120, 121, 122, 123, 124, 125, 126, 10]
theorem l_signs : ("=;!\"#$&'()*+,-./:<>?@ABCDEFGHIJKLMNOPQRSTUVWXYZ[\\]^_`{|}~" : Str) = S signsL := by decide
theorem l_ch1 : (" !\"#$&'()*+,-./0123456789:;<=>?@ABCDEFGHIJKLMNOPQRSTUVWXYZ[\\]^_`" : Str) = S ch1 := by decide
theorem l_ch2 : ("abcdefghijklmnopqrstuvwxyz{|}~\n" : Str) = S ch2 := by decide
theorem signs_ok : ∀ c ∈ signsL, R c = false ∧ bl c = false := by decide
theorem mod_get {l : List Nat} (i : Int) (h : 0 < l.length) : ∃ c, c ∈ l ∧ atI l (i % (l.length : Int)) = some c := by
  have h1 := Int.emod_nonneg i (show (l.length : Int) ≠ 0 by omega)
  have h2 := Int.emod_lt_of_pos i (show (0 : Int) < (l.length : Int) by omega)
  have e : i % (l.length : Int) = ((i % (l.length : Int)).toNat : Int) := by omega
  have hlt : (i % (l.length : Int)).toNat < l.length := by omega
  rw [e, atI_nat, List.getElem?_eq_getElem hlt]
  exact ⟨_, List.getElem_mem hlt, rfl⟩
theorem char_ok (n : Int) : ∃ c, f__law_char [.int n] = .ret (.str (S [c])) := by
  have hl : (ch1 ++ ch2).length = 95 := rfl
  obtain ⟨c, _, hc⟩ := mod_get (l := ch1 ++ ch2) n (by rw [hl]; omega)
  refine ⟨c, defn_ret rfl ?_⟩
  unfold m__law_char
  have h1 := vAdd_S (a := ch1) (b := ch2) (by decide)
  have h2 := vLen_S (l := ch1 ++ ch2) (by rw [hl]; omega)
  have h3 := vIx_S (by rw [hl]; omega) hc
  rw [hl] at h2 h3
  have h3 : vIx (.str (S (ch1 ++ ch2))) (.int (n % 95)) = .ok (.str (S [c])) := h3
  simp! [l_ch1]
  refine Then.mk ?_; unfold m__law_char_1; simp! [l_ch2, h1]
  refine Then.mk ?_; unfold m__law_char_2; simp! [h2, h3]
theorem run_ok (code step : Int) (n : Nat) (hn : n ≤ 100) (hs : 0 ≤ step ∧ step < 1000) : ∃ t, f__law_run [.int code, .int step, .int n] = .ret (.str (S t)) ∧ t.length = n ∧ ∀ c ∈ t, R c = true := by
  suffices h : ∃ y, f__law_run [.int code, .int step, .int n] = .ret y ∧ ∃ t, y = .str (S t) ∧ t.length = n ∧ ∀ c ∈ t, R c = true by
    obtain ⟨y, h, t, rfl, h2⟩ := h; exact ⟨t, h, h2⟩
  refine defn_some rfl ?_
  unfold m__law_run
  simp! [lrun]
  refine Then.mk ?_; unfold m__law_run_1; simp! [l_e]
  refine Then.mk ?_; unfold m__law_run_2; simp! []
  unfold m__law_run_c_F
  refine Ok_for (xs := rangeL 0 n) (range1_ok (by simp! []) (by omega)) ?_
  refine forL_ok _ (fun i env => ∃ (m : Int) (t : List Nat) (s5 : Slot), env = [.sh (.int m), .sh (.int step), .sh (.int n), .sh (.str (S runL)), .sh (.str (S t)), s5] ∧ t.length = i ∧ ∀ c ∈ t, R c = true) _ ⟨_, [], _, rfl, rfl, by simp⟩ ?_ ?_
  · rintro i hi env ⟨m, t, s5, rfl, hl, ht⟩
    rw [range_len] at hi
    rw [range_get, Int.zero_add]
    refine ⟨_, rfl, ?_⟩
    obtain ⟨c, hc, hc2⟩ := mod_get (l := runL) (m + i * step) (by decide)
    have h1 := vIx_S (by decide) hc2
    rw [show ((runL.length : Nat) : Int) = 36 from rfl] at h1
    have h2 := vAdd_S (a := t) (b := [c]) (by simp [hl]; omega)
    have hd : divOk 5 = true := divOk_iff.mpr (by omega)
    have hm : mulOk (i : Int) step = true := mulOk_r _ _ (by omega)
    unfold m__law_run_c_L
    simp! [hm, h1, h2]
    refine Then.mk ?_; unfold m__law_run_c_1; simp! [hd]
    refine ⟨m / 5, t ++ [c], .sh (.int i), rfl, by simp [hl], fun d hd => ?_⟩
    rcases List.mem_append.mp hd with hd | hd
    · exact ht d hd
    · rw [List.mem_singleton] at hd; subst hd; exact decide_eq_true hc
  · rintro env ⟨m, t, s5, rfl, hl, ht⟩
    rw [range_len] at hl
    refine Then.mk ?_; unfold m__law_run_3; simp! []
    exact ⟨t, rfl, hl, ht⟩
theorem token_ok (p0 p1 p2 p3 p4 p5 p6 p7 p8 : Int) (h0 : 0 ≤ p0 ∧ p0 < 11) (h2 : 0 ≤ p2 ∧ p2 < 36) (h3 : 0 ≤ p3 ∧ p3 < 12) : ∃ t, f__law_token [.lst [.int p0, .int p1, .int p2, .int p3, .int p4, .int p5, .int p6, .int p7, .int p8]] = .ret (.str (S t)) ∧ Tok t ∧ t.length ≤ 12 := by
  suffices h : ∃ y, f__law_token [.lst [.int p0, .int p1, .int p2, .int p3, .int p4, .int p5, .int p6, .int p7, .int p8]] = .ret y ∧ ∃ t, y = .str (S t) ∧ Tok t ∧ t.length ≤ 12 by
    obtain ⟨y, h, t, rfl, h2⟩ := h; exact ⟨t, h, h2⟩
  refine defn_some rfl ?_
  unfold m__law_token
  obtain ⟨t, et, hl, ht⟩ := run_ok p1 p2 (1 + p3).toNat (by omega) (by omega)
  rw [show (((1 + p3).toNat : Nat) : Int) = 1 + p3 by omega] at et
  simp! [et]
  refine ⟨fun _ => ⟨t, rfl, .inl ⟨fun q => by subst q; simp at hl; omega, ht⟩, by omega⟩, fun hp0 => ?_⟩
  have hsl : signsL.length = 57 := rfl
  refine Then.mk ?_; unfold m__law_token_1; simp! [l_signs]
  refine Then.mk ?_; unfold m__law_token_2; simp! []
  refine ⟨fun hp1 => ?_, fun _ => ?_⟩
  · have hlt : (p0 - 6).toNat < signsL.length := by omega
    have hc : atI signsL (p0 - 6) = some (signsL[(p0 - 6).toNat]'hlt) := by
      have h := atI_nat signsL (p0 - 6).toNat
      rw [List.getElem?_eq_getElem hlt] at h
      rw [← h]
      congr 1
      omega
    have hc2 := vIx_S (by rw [hsl]; omega) hc
    simp! [hc2]
    have hm := signs_ok _ (List.getElem_mem hlt)
    exact ⟨_, rfl, .inr ⟨_, rfl, hm.1, hm.2⟩, by simp⟩
  · obtain ⟨c, hc, hc2⟩ := mod_get (l := signsL) p4 (by rw [hsl]; omega)
    have h4 := vIx_S (by rw [hsl]; omega) hc2
    have h5 := vLen_S (l := signsL) (by rw [hsl]; omega)
    rw [hsl] at h4 h5
    have h4 : vIx (.str (S signsL)) (.int (p4 % 57)) = .ok (.str (S [c])) := h4
    refine Then.mk ?_; unfold m__law_token_3; simp! [h5, h4]
    have hm := signs_ok c hc
    exact ⟨_, rfl, .inr ⟨_, rfl, hm.1, hm.2⟩, by simp⟩
theorem aget (A : List (Nat × List Nat)) (i : Nat) (h : i < A.length) : (A.map enc)[i]? = some (.tup [.int A[i].1, .str (S A[i].2)]) := by
  rw [List.getElem?_map, List.getElem?_eq_getElem h]; rfl
theorem same_ok (A : List (Nat × List Nat)) (hA : A.length ≤ 90000) : f__law_same [.lst (A.map enc), .lst (A.map enc)] = .ret (.bl true) := by
  refine defn_ret rfl ?_
  unfold m__law_same
  simp! []
  refine Then.mk ?_; unfold m__law_same_1; simp! []
  unfold m__law_same_b_F
  refine Ok_for (xs := rangeL 0 A.length) (range1_ok (by simp! [List.length_map]) (by omega)) ?_
  refine forL_ok _ (fun i env => ∃ (s2 s3 : Slot), env = [.sh (.lst (A.map enc)), .sh (.lst (A.map enc)), s2, s3]) _ ⟨_, _, rfl⟩ ?_ ?_
  · rintro i hi env ⟨s2, s3, rfl⟩
    rw [range_len] at hi
    rw [range_get, Int.zero_add]
    refine ⟨_, rfl, ?_⟩
    have g := aget A i hi
    unfold m__law_same_b_L
    simp! [g]
    refine Then.mk ?_; unfold m__law_same_b_1; simp! []
    refine Then.mk ?_; unfold m__law_same_b_2; simp! [int_k]
    refine Then.mk ?_; unfold m__law_same_b_3; simp! [g]
    exact ⟨_, _, rfl⟩
  · rintro env ⟨s2, s3, rfl⟩
    refine Then.mk ?_; unfold m__law_same_2; simp! []
def lettersL : List Nat := [97,98,99,100,101,102,103,104,105,106,107,108,109,110,111,112,113,114,115,116,117,118,119,120,121,122]
def digitsL : List Nat := [48,49,50,51,52,53,54,55,56,57]
theorem l_let : ("abcdefghijklmnopqrstuvwxyz" : Str) = S lettersL := by decide
theorem l_dig : ("0123456789" : Str) = S digitsL := by decide
theorem l_eq : ("=" : Str) = S [61] := by decide
theorem l_sc : (";" : Str) = S [59] := by decide
theorem l_eqsc : ("=;" : Str) = S [61, 59] := by decide
theorem word_ok (c : Nat) (r : List Nat) (hl : r.length ≤ 12) : f_is_word [.str (S (c :: r))] = .ret (.bl (decide (c ∈ lettersL) && decide ((r.length : Int) + 1 ≤ 8))) := by
  refine defn_ret rfl ?_
  unfold m_is_word
  have h1 := vLen_S (l := c :: r) (by simp; omega)
  have h2 := vIx_S (l := c :: r) (i := 0) (c := c) (by simp; omega) (atI_0 _)
  have h1 : vLen [.str (S (c :: r))] = .ok (.int ((r.length : Int) + 1)) := h1
  simp! [l_let, h1, h2, vIn_S]
theorem good_ok {t : List Nat} (ht : Tok t) (hl : t.length ≤ 12) : ∃ b, f_is_good [.str (S t)] = .ret (.bl b) ∧ f__law_good [.str (S t)] = .ret (.bl b) := by
  obtain ⟨c, r, rfl⟩ : ∃ c r, t = c :: r := by
    rcases ht with ⟨h, _⟩ | ⟨c, rfl, _⟩
    · cases t with
      | nil => exact absurd rfl h
      | cons c r => exact ⟨c, r, rfl⟩
    · exact ⟨c, [], rfl⟩
  have hl' : r.length ≤ 12 := by simp at hl; omega
  have h1 : vLen [.str (S (c :: r))] = .ok (.int ((r.length : Int) + 1)) := vLen_S (l := c :: r) (by simp; omega)
  have h2 := vIx_S (l := c :: r) (i := 0) (c := c) (by simp; omega) (atI_0 _)
  have hg : f_is_good [.str (S (c :: r))] = .ret (.bl (decide (c :: r = [61]) || (decide (c :: r = [59]) || (decide (c ∈ lettersL) && decide ((r.length : Int) + 1 ≤ 8))))) := by
    refine defn_ret rfl ?_
    unfold m_is_good
    simp! [l_eq, l_sc, S_beq, word_ok c r hl']
  obtain ⟨b0, hb0⟩ : ∃ b, b = (decide (c :: r = [61]) || (decide (c :: r = [59]) || (decide (c ∈ lettersL) && decide ((r.length : Int) + 1 ≤ 8)))) := ⟨_, rfl⟩
  rw [← hb0] at hg
  refine ⟨_, hg, ?_⟩
  refine defn_ret rfl ?_
  unfold m__law_good
  rcases ht with ⟨_, hR⟩ | ⟨d, e, hR, hb⟩
  · have hc := hR c List.mem_cons_self
    have n1 : c ≠ 61 := by intro q; subst q; revert hc; decide
    have n2 : c ≠ 59 := by intro q; subst q; revert hc; decide
    have key : ∀ c ∈ runL, decide (c ∈ lettersL) = !decide (c ∈ digitsL) := by decide
    have k := key c (of_decide_eq_true hc)
    have last : Ok (m__law_good_1 [.sh (.str (S (c :: r)))]) (fun _ => False) (fun x => x = .bl b0) := by
      unfold m__law_good_1
      simp! [l_dig, h1, h2, vNotIn_S]
      rw [hb0, k]
      simp [n1, n2]
    cases r with
    | nil =>
      have hin := in_run c
      rw [hc] at hin
      simp! [h1, hin]
      exact ⟨last⟩
    | cons d r =>
      have hne2 : ((((d :: r).length : Int) + 1 == 1)) = false := by rw [beq_eq_false_iff_ne]; simp; omega
      have h1 : vLen [.str (S (c :: d :: r))] = .ok (.int (((d :: r).length : Int) + 1)) := h1
      generalize (((d :: r).length : Int) + 1) = z at h1 hne2
      simp! [h1, hne2]
      exact ⟨last⟩
  · cases e
    have hin := in_run c
    rw [hR] at hin
    have n1 : ¬ c ∈ lettersL := fun q => by
      have : ∀ c ∈ lettersL, R c = true := by decide
      rw [this c q] at hR; cases hR
    simp! [h1, hin, l_eqsc, vIn_S]
    rw [hb0]
    simp [n1]
theorem lastR_take (T : List Nat) (k : Nat) (h : k < T.length) (h0 : 0 < k) : lastR (T.take k) = R (T[k-1]'(by omega)) := by
  have e : T.take k = T.take (k - 1) ++ [T[k-1]'(by omega)] := by
    have := List.take_succ_eq_append_getElem (show k - 1 < T.length by omega)
    rw [show k - 1 + 1 = k by omega] at this
    exact this
  unfold lastR
  rw [e, List.getLast?_append]
  rfl
theorem pairs_ok (T : List Nat) (hT : T.length < 90000) : f__law_pairs [.str (S T)] = .ret (.lst ((tokF 0 T).map enc)) := by
  refine defn_ret rfl ?_
  unfold m__law_pairs
  have hlen : vLen [.str (S T)] = .ok (.int T.length) := vLen_S (by omega)
  simp! []
  refine Then.mk ?_; unfold m__law_pairs_1; simp! []
  unfold m__law_pairs_b_F
  refine Ok_for (xs := rangeL 0 T.length) (range1_ok (by simp! [hlen]) (by omega)) ?_
  refine forL_ok _ (fun i env => ∃ (s2 s3 : Slot), env = [.sh (.str (S T)), .oL ((tokF 0 (T.take i)).map enc), s2, s3] ∧ i ≤ T.length ∧ (tokF 0 (T.take i)).length ≤ i) _ ⟨_, _, by rw [List.take_zero, tokF_nil]; rfl, by omega, by rw [List.take_zero, tokF_nil]; simp⟩ ?_ ?_
  · rintro k hk env ⟨s2, s3, rfl, hk2, hE⟩
    rw [range_len] at hk
    rw [range_get, Int.zero_add]
    refine ⟨_, rfl, ?_⟩
    have hc := vIx_S (l := T) (i := (k : Int)) (by omega) (char_at T k hk)
    have htk : T.take (k + 1) = T.take k ++ [T[k]] := List.take_succ_eq_append_getElem hk
    have hsn := tokF_snoc (T.take k) T[k]
    have hlk : (T.take k).length = k := by rw [List.length_take]; omega
    -- the test
    have tail : ∀ b, b = (lastR (T.take k) && R T[k]) → Ok (m__law_pairs_b_1 [.sh (.str (S T)), .oL ((tokF 0 (T.take k)).map enc), .sh (.int k), .sh (.bl b)]) (fun env => ∃ (s2 s3 : Slot), env = [.sh (.str (S T)), .oL ((tokF 0 (T.take (k + 1))).map enc), s2, s3] ∧ k + 1 ≤ T.length ∧ (tokF 0 (T.take (k + 1))).length ≤ k + 1)
        (fun x => x = .lst ((tokF 0 T).map enc)) (Then m__law_pairs_2 (fun _ => False) (fun x => x = .lst ((tokF 0 T).map enc)) (fun _ => False) (fun _ => False)) (fun env => ∃ (s2 s3 : Slot), env = [.sh (.str (S T)), .oL ((tokF 0 (T.take (k + 1))).map enc), s2, s3] ∧ k + 1 ≤ T.length ∧ (tokF 0 (T.take (k + 1))).length ≤ k + 1) := by
      intro b hb
      unfold m__law_pairs_b_1
      rcases hsn with ⟨h1, h2, E, n, w, e1, e2, hw⟩ | ⟨h1, e2⟩
      · rw [h1, h2] at hb
        have hb : b = true := hb
        subst hb
        have hne : (E ++ [(n, w)]).map enc ≠ [] := by simp
        have hlast : atI ((E ++ [(n, w)]).map enc) (-1) = some (.tup [.int n, .str (S w)]) := by
          rw [atI_m1 _ hne, List.getLast_map]
          simp [enc]
        have ha := vAdd_S (a := w) (b := [T[k]]) (by simp; omega)
        have hix : ixNat ((E ++ [(n, w)]).map enc).length (-1) = some E.length := by
          unfold ixNat
          rw [List.length_map, List.length_append, List.length_singleton, if_neg (by omega), if_pos (by omega)]
          congr 1
          omega
        rw [e1]
        generalize hL : (E ++ [(n, w)]).map enc = L at hlast hix
        simp! [hlast, hc, ha, hix]
        refine ⟨.sh (.int k), .sh (.bl true), ?_, hk, ?_⟩
        · rw [htk, e2, ← hL, List.map_append, List.map_append, List.set_append_right _ _ (by simp)]
          simp [enc]
        · rw [htk, e2]
          rw [e1] at hE
          simp at hE ⊢
          omega
      · have hb : b = false := by
          cases hl : lastR (T.take k) with
          | false => rw [hl] at hb; exact hb
          | true =>
            cases hR : R T[k] with
            | false => rw [hl, hR] at hb; exact hb
            | true => exact absurd ⟨hl, hR⟩ h1
        subst hb
        have hbl : decide (T[k] ∈ [32, 10]) = bl T[k] := by unfold bl; rw [Bool.eq_iff_iff]; simp
        simp! [hc, l_snl, vNotIn_S, hbl, List.length_map]
        rw [← htk] at e2
        rw [hlk] at e2
        refine ⟨fun h => ?_, fun h => ?_⟩
        · rw [h] at e2
          refine ⟨by omega, .sh (.int k), .sh (.bl false), by rw [e2]; simp [enc], hk, by rw [e2]; simp; omega⟩
        · rw [h] at e2
          refine ⟨.sh (.int k), .sh (.bl false), by rw [e2]; simp, hk, by rw [e2]; simp; omega⟩
    unfold m__law_pairs_b_L
    by_cases h0 : 0 < k
    · have hc1 := vIx_S (l := T) (i := (k : Int) - 1) (c := T[k-1]'(by omega)) (by omega) (by
        rw [show (k : Int) - 1 = ((k - 1 : Nat) : Int) by omega]; exact char_at T (k - 1) (by omega))
      have h0' : ((0 : Int) < (k : Int)) := by omega
      simp! [h0', hc, hc1, in_run]
      exact ⟨tail _ (by rw [lastR_take T k hk h0, Bool.and_comm])⟩
    · have h0' : ¬ ((0 : Int) < (k : Int)) := by omega
      simp! [h0']
      have : k = 0 := by omega
      subst this
      exact ⟨tail _ (by simp [lastR])⟩
  · rintro env ⟨s2, s3, rfl, _, _⟩
    rw [range_len, List.take_length]
    refine Then.mk ?_; unfold m__law_pairs_2; simp! []
    refine Then.mk ?_; unfold m__law_pairs_3; simp! []
def bks : List (List Nat) := [[], [32], [10], [32, 32], [32, 10], [10, 10], []]
theorem l_2sp : ("  " : Str) = S [32, 32] := by decide
theorem l_2nl : ("\n\n" : Str) = S [10, 10] := by decide
def bv : List Val := [.str (S []), .str (S [32]), .str (S [10]), .str (S [32, 32]), .str (S [32, 10]), .str (S [10, 10]), .str (S [])]
theorem blank_at (p : Int) (h : 0 ≤ p ∧ p < 7) : ∃ b, atI bv p = some (.str (S b)) ∧ (∀ c ∈ b, bl c = true) ∧ b.length ≤ 2 := by
  have : p = 0 ∨ p = 1 ∨ p = 2 ∨ p = 3 ∨ p = 4 ∨ p = 5 ∨ p = 6 := by omega
  rcases this with rfl | rfl | rfl | rfl | rfl | rfl | rfl
  · exact ⟨[], rfl, by decide, by decide⟩
  · exact ⟨[32], rfl, by decide, by decide⟩
  · exact ⟨[10], rfl, by decide, by decide⟩
  · exact ⟨[32, 32], rfl, by decide, by decide⟩
  · exact ⟨[32, 10], rfl, by decide, by decide⟩
  · exact ⟨[10, 10], rfl, by decide, by decide⟩
  · exact ⟨[], rfl, by decide, by decide⟩
def Inv1 (ns : List Int) (i : Nat) (env : Env) : Prop := ∃ (T U : List Nat) (s5 s7 s8 s9 : Slot), env = [.sh (.lst (ns.map .int)), .sh (.lst bv), .sh (.str (S T)), .sh (.str (S U)), .oL ((tokF 0 T).map enc), s5, .un, s7, s8, s9, .un] ∧ T.length ≤ 14 * i ∧ U.length ≤ 3 * i ∧ (tokF 0 T).length ≤ i ∧ ∀ p ∈ tokF 0 T, Tok p.2 ∧ p.2.length ≤ 12
theorem turn {ns : List Int} {i : Nat} (hi : i < 100) {T U t b : List Nat} {c p0 p1 p2 p3 p4 p5 p6 p7 p8 : Int} {Rr B} (hT : T.length ≤ 14 * i) (hU : U.length ≤ 3 * i) (hE : (tokF 0 T).length ≤ i) (hA : ∀ p ∈ tokF 0 T, Tok p.2 ∧ p.2.length ≤ 12)
    (ht : Tok t) (htl : t.length ≤ 12) (hb : ∀ c ∈ b, bl c = true) (hbl : b.length ≤ 2) (hs : lastR T = true → b = [] → headR t = false) :
    Ok (m_law_e_4 [.sh (.lst (ns.map .int)), .sh (.lst bv), .sh (.str (S T)), .sh (.str (S U)), .oL ((tokF 0 T).map enc), .sh (.int c), .un, .sh (.lst [.int p0, .int p1, .int p2, .int p3, .int p4, .int p5, .int p6, .int p7, .int p8]), .sh (.str (S t)), .sh (.str (S b)), .un]) (Inv1 ns (i + 1)) Rr B (Inv1 ns (i + 1)) := by
  have h1 := vAdd_S (a := T) (b := b) (by omega)
  have h2 := vLen_S (l := T ++ b) (by rw [List.length_append]; omega)
  have h3 := vAdd_S (a := T ++ b) (b := t) (by rw [List.length_append]; omega)
  have g := tokF_grow hb ht hs
  obtain ⟨c1, k1⟩ := char_ok p6
  obtain ⟨c2, k2⟩ := char_ok p7
  obtain ⟨c3, k3⟩ := char_ok p8
  have u1 := vAdd_S (a := U) (b := [c1]) (by simp; omega)
  have u2 := vAdd_S (a := U ++ [c1]) (b := [c2]) (by simp; omega)
  have u3 := vAdd_S (a := U ++ [c1] ++ [c2]) (b := [c3]) (by simp; omega)
  unfold m_law_e_4
  simp! [h1]
  refine Then.mk ?_; unfold m_law_e_5; simp! [h2, List.length_map]
  refine ⟨by omega, ?_⟩
  refine Then.mk ?_; unfold m_law_e_6; simp! [h3]
  refine Then.mk ?_; unfold m_law_e_7; simp! [k1, k2, k3, u1, u2, u3]
  refine ⟨T ++ b ++ t, U ++ [c1] ++ [c2] ++ [c3], _, _, _, _, by rw [g, List.map_append, show (tokF 0 T).map enc ++ [(T.length + b.length, t)].map enc = (tokF 0 T).map enc ++ [.tup [.int ((T ++ b).length : Nat), .str (S t)]] by rw [List.length_append]; rfl], ?_, ?_, ?_, ?_⟩
  · simp only [List.length_append]; omega
  · simp only [List.length_append, List.length_singleton]; omega
  · rw [g, List.length_append, List.length_singleton]; omega
  · rw [g]
    intro p hp
    rcases List.mem_append.mp hp with hp | hp
    · exact hA p hp
    · rw [List.mem_singleton] at hp; subst hp; exact ⟨ht, htl⟩
theorem law_pure (ns : List Int) (hns : ns.length ≤ 63) : f_law [.lst (ns.map .int)] = .ret (.bl true) := by
  refine defn_ret rfl ?_
  unfold m_law
  simp! [l_e, l_sp, l_nl, l_2sp, l_snl, l_2nl]
  refine Then.mk ?_; unfold m_law_1; simp! [l_e]
  refine Then.mk ?_; unfold m_law_2; simp! [l_e]
  refine Then.mk ?_; unfold m_law_3; simp! []
  refine Then.mk ?_; unfold m_law_4; simp! []
  unfold m_law_e_F
  refine Ok_for (xs := (cut ns none (some 100)).map .int) (by simp! [vCut, cut_map]) ?_
  have hcl := cut_len ns none (some 100)
  refine forL_ok _ (Inv1 ns) _ ⟨[], [], _, _, _, _, by rw [tokF_nil]; rfl, by simp, by simp, by rw [tokF_nil]; simp, by rw [tokF_nil]; simp⟩ ?_ ?_
  · rintro i hi env ⟨T, U, s5, s7, s8, s9, rfl, hT, hU, hE, hA⟩
    rw [List.length_map] at hi
    rw [List.getElem_map]
    refine ⟨_, rfl, ?_⟩
    obtain ⟨ps, ep, hp⟩ := parts_k (cut ns none (some 100))[i] [11, 1000000000, 36, 12, 60, 7, 97, 97, 97] (by decide) (by decide)
    obtain ⟨p0, _, rfl, h0, hp⟩ := hp.cons
    obtain ⟨p1, _, rfl, h1, hp⟩ := hp.cons
    obtain ⟨p2, _, rfl, h2, hp⟩ := hp.cons
    obtain ⟨p3, _, rfl, h3, hp⟩ := hp.cons
    obtain ⟨p4, _, rfl, h4, hp⟩ := hp.cons
    obtain ⟨p5, _, rfl, h5, hp⟩ := hp.cons
    obtain ⟨p6, _, rfl, h6, hp⟩ := hp.cons
    obtain ⟨p7, _, rfl, h7, hp⟩ := hp.cons
    obtain ⟨p8, _, rfl, h8, hp⟩ := hp.cons
    obtain rfl := hp.nil'
    simp only [List.map_cons, List.map_nil] at ep
    obtain ⟨t, et, ht, htl⟩ := token_ok p0 p1 p2 p3 p4 p5 p6 p7 p8 h0 h2 h3
    obtain ⟨b, eb, hb, hbl⟩ := blank_at p5 h5
    unfold m_law_e_L
    simp! [ep]
    refine Then.mk ?_; unfold m_law_e_1; simp! [et]
    refine Then.mk ?_; unfold m_law_e_2; simp! [eb]
    obtain ⟨c, r, rfl⟩ : ∃ c r, t = c :: r := by
      rcases ht with ⟨h, _⟩ | ⟨c, rfl, _⟩
      · cases t with
        | nil => exact absurd rfl h
        | cons c r => exact ⟨c, r, rfl⟩
      · exact ⟨c, [], rfl⟩
    have ht0 := vIx_S (l := c :: r) (i := 0) (c := c) (by omega) (atI_0 _)
    by_cases hT0 : T = []
    · subst hT0
      refine Then.mk ?_; unfold m_law_e_3; simp! [l_e, S_beq]
      exact ⟨turn (by omega) hT hU hE hA ht htl hb hbl (fun q => by cases q)⟩
    · have hTl := vIx_S (l := T) (i := -1) (c := T.getLast hT0) (by omega) (atI_m1 _ hT0)
      have hlast : R (T.getLast hT0) = lastR T := by unfold lastR; rw [List.getLast?_eq_some_getLast hT0]
      by_cases hb0 : b = []
      · subst hb0
        refine Then.mk ?_; unfold m_law_e_3; simp! [l_e, l_sp, S_beq, hT0, hTl, ht0, in_run]
        rw [hlast]
        refine ⟨fun h => ?_, fun h => ?_⟩
        · exact ⟨turn (b := [32]) (by omega) hT hU hE hA ht htl (by decide) (by decide) (fun _ q => by cases q)⟩
        · refine ⟨turn (by omega) hT hU hE hA ht htl hb hbl (fun q _ => ?_)⟩
          rw [q] at h
          exact h
      · refine Then.mk ?_; unfold m_law_e_3; simp! [l_e, S_beq, hT0, hb0]
        exact ⟨turn (by omega) hT hU hE hA ht htl hb hbl (fun _ q => absurd q hb0)⟩
  · rintro env ⟨T, U, s5, s7, s8, s9, rfl, hT, hU, hE, hA⟩
    rw [List.length_map] at hT hU hE
    have fin : ∀ (T' : List Nat), tokF 0 T' = tokF 0 T → T'.length ≤ 2000 → Ok (m_law_7 [.sh (.lst (ns.map .int)), .sh (.lst bv), .sh (.str (S T')), .sh (.str (S U)), .sh (.lst ((tokF 0 T).map enc)), s5, .un, s7, s8, s9, .un]) (fun _ => False) (fun x => x = .bl true) := by
      intro T' e hl
      have a1 := split_ok T' (by omega)
      have a2 := split_ok U (by omega)
      have a3 := pairs_ok U (by omega)
      have a4 := same_ok (tokF 0 T) (by omega)
      have a5 := same_ok (tokF 0 U) (by have := tokF_len U.length U 0 (Nat.le_refl _); omega)
      rw [e] at a1
      unfold m_law_7
      simp! [a1, a2, a3, a4, a5]
      refine Then.mk ?_; unfold m_law_8; simp! []
      unfold m_law_h_F
      refine Ok_for (xs := (tokF 0 T).map enc) (by simp! []) ?_
      refine forL_ok _ (fun i env => ∃ s6 s10, env = [.sh (.lst (ns.map .int)), .sh (.lst bv), .sh (.str (S T')), .sh (.str (S U)), .sh (.lst ((tokF 0 T).map enc)), s5, s6, s7, s8, s9, s10]) _ ⟨_, _, rfl⟩ ?_ ?_
      · rintro i hi env ⟨s6, s10, rfl⟩
        have hi : i < (tokF 0 T).length := by simpa using hi
        rw [List.getElem_map]
        refine ⟨_, rfl, ?_⟩
        obtain ⟨h1, h2⟩ := hA _ (List.getElem_mem hi)
        obtain ⟨b, g1, g2⟩ := good_ok h1 h2
        unfold m_law_h_L enc
        simp! [g1]
        refine Then.mk ?_; unfold m_law_h_1; simp! [g2]
        exact ⟨_, _, rfl⟩
      · rintro env ⟨s6, s10, rfl⟩
        refine Then.mk ?_; unfold m_law_9; simp! []
    refine Then.mk ?_; unfold m_law_5; simp! []
    refine Then.mk ?_; unfold m_law_6; simp! [List.length_map]
    refine ⟨fun h => ?_, fun h => ⟨fin T rfl (by omega)⟩⟩
    have hne : ns.map Val.int ≠ [] := by intro q; have := congrArg List.length q; simp at this; subst this; simp at h
    have hne2 : ns ≠ [] := fun q => hne (by rw [q]; rfl)
    have hlast : atI (ns.map Val.int) (-1) = some (.int (ns.getLast hne2)) := by rw [atI_m1 _ hne, List.getLast_map]
    obtain ⟨b, eb, hb, hbl⟩ := blank_at (ns.getLast hne2 % 7) ⟨Int.emod_nonneg _ (by omega), Int.emod_lt_of_pos _ (by omega)⟩
    have h1 := vAdd_S (a := T) (b := b) (by omega)
    simp! [hlast, eb, h1]
    exact ⟨fin (T ++ b) (tokF_end hb) (by rw [List.length_append]; omega)⟩
end K01
end Vm
end

theorem PySem.Challenge.cw_gatesread_k01_split_tokens_holds : PySem.Challenge.rw_gatesread_k01_split_tokens.Holds :=
  Vm.K01.gr_holds Vm.K01.law_pure
