import PyProof.Rows.All
import Wide.All
import OpenK.AllK
import Wide.FinOn
import HandS.ForMost
import HandS.Wide
import HandS.IsInst
import HandS.Walk
import HandS.Exc
import HandS.ExcOwn
import HandS.TryOnly
import HandS.WordsExc
import HandS.HeadHook1
import HandS.Lambda
import PyProof.Rows.SeqMore
import HandS.Text
import HandS.WideBits
import PyProof.MaxThree
import HandS.Dict
import HandS.Defaults
import KE.KStateDown
import HandS.Ends
import HandS.More
import HandS.Head0
import HandS.Head1
import HandS.Head2
import HandS.HeadEnd
import HandS.HeadHook2
import HandS.HeadHook3
import HandS.HeadHook4
import PyProof.DictTable
import HandS.RaiseOp
import HandS.WrittenGet
import HandS.ExcIs
import HandS.Conv
import HandS.TryMany
import HandS.Star
import HandS.SortInts
import HandS.SetKeys
import HandS.Style
import HandS.DictComp
import HandS.TupLe
import HandS.CallSlots
import HandS.Deep
import PyProof.StrBlock2
import HandS.Zip
import HandS.TupAny
import HandS.SortKw
import KE.SortKeyHeap
import HandS.EndTab
import HandS.NestedK
import KE.DataMinMax
import HandS.SetBool
import KE.SortData
import KE.KDictWalk
import KE.GoesEnum
import HandS.HotCalls
import PySem.Challenge.RW_gatesread_k90_operations_on_diagrams
set_option Elab.async false
set_option linter.all false
set_option maxRecDepth 100000
set_option maxHeartbeats 0
noncomputable section
namespace Vm
abbrev Str := PySem.Str
abbrev Key := Sum Int Str
/-- a value, whole: nothing in it changes any more -/
inductive Val where
  | non
  | bl (b : Bool)
  | int (i : Int)
  | str (s : Str)
  | tup (xs : List Val)
  | lst (xs : List Val)
  | dct (kvs : List (Key × Val))
  | dcT (kvs : List (List Key × Val))
  | dck (kvs : List (Key × Val))
  | ob (c : Str) (fs : List (Str × Val))
  deriving Inhabited
/-- a thing that a slot owns: what may change in place, with the values in it -/
inductive Tr where
  | v (x : Val)
  | l (ts : List Tr)
  | d (kvs : List (Key × Tr))
  | dT (kvs : List (List Key × Tr))
  | o (c : Str) (fs : List (Str × Tr))
  deriving Inhabited
mutual
def Tr.val : Tr → Val
  | .v x => x
  | .l ts => .lst (Tr.vals ts)
  | .d kvs => .dct (Tr.valsD kvs)
  | .dT kvs => .dcT (Tr.valsT kvs)
  | .o c fs => .ob c (Tr.valsO fs)
def Tr.vals : List Tr → List Val
  | [] => []
  | t :: ts => t.val :: Tr.vals ts
def Tr.valsD : List (Key × Tr) → List (Key × Val)
  | [] => []
  | (k, t) :: ts => (k, t.val) :: Tr.valsD ts
def Tr.valsT : List (List Key × Tr) → List (List Key × Val)
  | [] => []
  | (k, t) :: ts => (k, t.val) :: Tr.valsT ts
def Tr.valsO : List (Str × Tr) → List (Str × Val)
  | [] => []
  | (k, t) :: ts => (k, t.val) :: Tr.valsO ts
end
/-- a slot of a def -/
inductive Slot where
  | un
  | sh (x : Val)
  | oL (xs : List Val)
  | oD (kvs : List (Key × Val))
  | oT (t : Tr)
  | me (t : Tr)
  /-- self behind a return whose value lies in what stays -/
  | meR (t : Tr)
  deriving Inhabited
abbrev Env := List Slot
def isR : Env → Bool
  | .meR _ :: _ => true
  | _ => false
def unR : Env → Env
  | .meR t :: r => .me t :: r
  | e => e
def mkR : Env → Env
  | .me t :: r => .meR t :: r
  | e => e
/-- an exception: its class's name and its fields -/
structure Exn where
  cls : Str
  fs : List (Str × Val)
inductive Res (α : Type) where
  | ok (a : α)
  | exc (e : Exn)
  | bad
def Res.bind {α β : Type} : Res α → (α → Res β) → Res β
  | .ok a, f => f a
  | .exc e, _ => .exc e
  | .bad, _ => .bad
@[simp] theorem Res.bind_ok {α β : Type} (a : α) (f : α → Res β) : (Res.ok a).bind f = f a := rfl
@[simp] theorem Res.bind_exc {α β : Type} (e : Exn) (f : α → Res β) : (Res.exc e).bind f = .exc e := rfl
@[simp] theorem Res.bind_bad {α β : Type} (f : α → Res β) : (Res.bad).bind f = .bad := rfl
def Res.ofOpt {α : Type} : Option α → Res α
  | some a => .ok a
  | none => .bad
@[simp] theorem Res.ofOpt_some {α : Type} (a : α) : Res.ofOpt (some a) = .ok a := rfl
@[simp] theorem Res.ofOpt_none {α : Type} : Res.ofOpt (none : Option α) = .bad := rfl
/-- what a value that stays may be made of: not the lists that may still change -/
def Slot.hide : Slot → Slot
  | .sh x => .sh x
  | _ => .un
def hide (env : Env) : Env := env.map Slot.hide
abbrev EX := Env → Res Val
abbrev EB := Env → Res Bool
abbrev EL := Env → Res (List Val)
def Val.isFlat : Val → Bool
  | .non => true
  | .bl _ => true
  | .int _ => true
  | .str _ => true
  | _ => false
mutual
def Val.noLst : Val → Bool
  | .tup xs => Val.noLsts xs
  | .lst _ => false
  | .dct _ => false
  | .dck kvs => Val.noLstK kvs
  | .dcT _ => false
  | .ob _ _ => false
  | .non => true
  | .bl _ => true
  | .int _ => true
  | .str _ => true
def Val.noLsts : List Val → Bool
  | [] => true
  | x :: xs => Val.noLst x && Val.noLsts xs
def Val.noLstK : List (Key × Val) → Bool
  | [] => true
  | (_, x) :: xs => Val.noLst x && Val.noLstK xs
end
mutual
def Val.isData : Val → Bool
  | .tup xs => Val.isDatas xs
  | .lst xs => Val.isDatas xs
  | .dct _ => false
  | .dck _ => false
  | .dcT _ => false
  | .ob _ _ => false
  | .non => true
  | .bl _ => true
  | .int _ => true
  | .str x => x.cps.all (· < 0x110000)
def Val.isDatas : List Val → Bool
  | [] => true
  | x :: xs => Val.isData x && Val.isDatas xs
end
mutual
def Val.depth : Val → Nat
  | .tup xs => Val.depths xs + 1
  | .lst xs => Val.depths xs + 1
  | .dct _ => 0
  | .dck _ => 0
  | .dcT _ => 0
  | .ob _ _ => 0
  | .non => 0
  | .bl _ => 0
  | .int _ => 0
  | .str _ => 0
def Val.depths : List Val → Nat
  | [] => 0
  | x :: xs => max (Val.depth x) (Val.depths xs)
end
def b2i (b : Bool) : Int := if b then 1 else 0
mutual
def eqv : Val → Val → Bool
  | .non, .non => true
  | .bl a, .bl b => a == b
  | .bl a, .int j => b2i a == j
  | .int i, .bl b => i == b2i b
  | .int i, .int j => i == j
  | .str x, .str y => x == y
  | .lst xs, .lst ys => eqvs xs ys
  | .tup xs, .tup ys => eqvs xs ys
  | _, _ => false
def eqvs : List Val → List Val → Bool
  | [], [] => true
  | x :: xs, y :: ys => eqv x y && eqvs xs ys
  | _, _ => false
end
/-- None, bools, ints, texts, but not a bool beside an int -/
def scal2 : Val → Val → Bool
  | .bl _, .int _ => false
  | .int _, .bl _ => false
  | x, y => x.isFlat && y.isFlat
def eqR (x y : Val) : Res Bool := if scal2 x y then .ok (eqv x y) else if x.isData && decide (x.depth ≤ 64) && (y.isData && decide (y.depth ≤ 64)) then .ok (eqv x y) else .bad
def eVar (i : Nat) : EX := fun env => match env[i]? with
  | some (.sh x) => .ok x
  | some (.oL xs) => .ok (.lst xs)
  | some (.oD kvs) => .ok (.dct kvs)
  | some (.oT t) => .ok t.val
  | some (.me t) => .ok t.val
  | _ => .bad
def eC (x : Val) : EX := fun _ => .ok x
def e1 (f : Val → Res Val) (a : EX) : EX := fun env => (a env).bind f
def e2 (f : Val → Val → Res Val) (a b : EX) : EX := fun env => (a env).bind fun x => (b env).bind fun y => f x y
/-- an argument list -/
def aNil : EL := fun _ => .ok []
def aCons (a : EX) (r : EL) : EL := fun env => (a env).bind fun x => (r env).bind fun xs => .ok (x :: xs)
def eArgs (f : List Val → Res Val) (a : EL) : EX := fun env => (a env).bind f
def vAdd : Val → Val → Res Val
  | .int i, .int j => .ok (.int (i + j))
  | .str x, .str y => if x.length + y.length ≤ 16777216 then .ok (.str (x ++ y)) else .bad
  | .lst xs, .lst ys => if xs.length + ys.length ≤ 16777216 then .ok (.lst (xs ++ ys)) else .bad
  | .tup xs, .tup ys => if xs.length + ys.length ≤ 16777216 ∧ xs.isEmpty = false then .ok (.tup (xs ++ ys)) else .bad
  | _, _ => .bad
def vIpAdd : Val → Val → Res Val
  | .int i, .int j => .ok (.int (i + j))
  | _, _ => .bad
def vSub : Val → Val → Res Val
  | .int i, .int j => .ok (.int (i - j))
  | _, _ => .bad
/-- p, nothing to run: the bounds of what the model's numbers may be -/
def big (p : Prop) : Bool := @decide p (Classical.propDecidable p)
theorem big_iff {p : Prop} : big p = true ↔ p := @decide_eq_true_iff p (Classical.propDecidable p)
def smallI (i : Int) : Bool := big (-4611686018427387904 ≤ i ∧ i < 4611686018427387904)
def mulOk (i j : Int) : Bool := big ((-18446744073709551616 < i ∧ i < 18446744073709551616) ∨ (-18446744073709551616 < j ∧ j < 18446744073709551616))
def divOk (j : Int) : Bool := big (0 < j ∧ j < 1267650600228229401496703205376)
def powOk (i j : Int) : Bool := big (0 ≤ j ∧ j ≤ 1000000 ∧ i.natAbs < 18446744073709551616)
def vMul : Val → Val → Res Val
  | .int i, .int j => if mulOk i j = true then .ok (.int (i * j)) else .bad
  | _, _ => .bad
def vShl : Val → Val → Res Val
  | .int i, .int j => if powOk i j = true then .ok (.int (i * 2 ^ j.toNat)) else .bad
  | _, _ => .bad
def vDiv : Val → Val → Res Val
  | .int i, .int j => if divOk j = true then .ok (.int (i / j)) else .bad
  | _, _ => .bad
def vMod : Val → Val → Res Val
  | .int i, .int j => if 0 < j then .ok (.int (i % j)) else .bad
  | _, _ => .bad
def vPow : Val → Val → Res Val
  | .int i, .int j => if powOk i j = true then .ok (.int (i ^ j.toNat)) else .bad
  | _, _ => .bad
def vNeg : Val → Res Val
  | .int i => .ok (.int (-i))
  | _ => .bad
def vLt : Val → Val → Res Val
  | .int i, .int j => .ok (.bl (decide (i < j)))
  | _, _ => .bad
def vLe : Val → Val → Res Val
  | .int i, .int j => .ok (.bl (decide (i ≤ j)))
  | _, _ => .bad
def vGt : Val → Val → Res Val
  | .int i, .int j => .ok (.bl (decide (j < i)))
  | _, _ => .bad
def vGe : Val → Val → Res Val
  | .int i, .int j => .ok (.bl (decide (j ≤ i)))
  | _, _ => .bad
def vEq (x y : Val) : Res Val := (eqR x y).bind fun b => .ok (.bl b)
def vNe (x y : Val) : Res Val := (eqR x y).bind fun b => .ok (.bl (!b))
def inFlat (x : Val) (xs : List Val) : Bool := xs.any fun y => eqv y x
def vInS : Val → Val → Res Val
  | x, .lst xs => if x.isFlat && xs.all Val.isFlat then .ok (.bl (inFlat x xs)) else .bad
  | x, .tup xs => if x.isFlat && xs.all Val.isFlat then .ok (.bl (inFlat x xs)) else .bad
  | .str x, .str y => match x.cps.toList with
    | [c] => .ok (.bl (decide (c ∈ y.cps.toList)))
    | _ => .bad
  | _, _ => .bad
def rNot : Res Val → Res Val
  | .ok (.bl b) => .ok (.bl (!b))
  | .ok _ => .bad
  | .exc e => .exc e
  | .bad => .bad
def vNotInS (x y : Val) : Res Val := rNot (vInS x y)
def keyOfV : Val → Option Key
  | .int i => some (.inl i)
  | .str x => some (.inr x)
  | _ => none
def kVal : Key → Val
  | .inl i => .int i
  | .inr x => .str x
def getV (kvs : List (Key × Val)) (k : Key) : Option Val := (kvs.find? fun kv => decide (kv.1 = k)).map (·.2)
def putV (kvs : List (Key × Val)) (k : Key) (v : Val) : List (Key × Val) := if (kvs.any fun kv => decide (kv.1 = k)) = true then kvs.map (fun kv => if kv.1 = k then (kv.1, v) else kv) else kvs ++ [(k, v)]
def vInD (x : Val) (kvs : List (Key × Val)) : Res Val := match keyOfV x with
  | some k => .ok (.bl (getV kvs k).isSome)
  | none => .bad
def vIn (x : Val) : Val → Res Val
  | .dct kvs => vInD x kvs
  | .dck kvs => vInD x kvs
  | y => vInS x y
def vNotIn (x y : Val) : Res Val := rNot (vIn x y)
def vIs : Val → Val → Res Val
  | .non, .non => .ok (.bl true)
  | _, .non => .ok (.bl false)
  | _, _ => .bad
def vIsNot : Val → Val → Res Val
  | .non, .non => .ok (.bl false)
  | _, .non => .ok (.bl true)
  | _, _ => .bad
/-- an index, from the end if it is negative -/
def ixNat (n : Nat) (i : Int) : Option Nat := if 0 ≤ i then (if i < n then some i.toNat else none) else if -(n : Int) ≤ i then some (i + n).toNat else none
def atI {α : Type} (xs : List α) (i : Int) : Option α := (ixNat xs.length i).bind fun k => xs[k]?
def vIxS : Val → Val → Res Val
  | .lst xs, .int i => Res.ofOpt (atI xs i)
  | .tup xs, .int i => Res.ofOpt (atI xs i)
  | .str z, .int i => if z.length ≤ 16777216 then Res.ofOpt ((atI z.cps.toList i).map fun c => .str ⟨#[c]⟩) else .bad
  | _, _ => .bad
def vIx : Val → Val → Res Val
  | .dct kvs, k => Res.ofOpt ((keyOfV k).bind (getV kvs))
  | .dck kvs, k => Res.ofOpt ((keyOfV k).bind (getV kvs))
  | x, k => vIxS x k
/-- the bounds of a slice -/
def cutAt (n : Nat) (d : Nat) : Option Int → Nat
  | none => d
  | some i => if i < 0 then (i + (n : Int)).toNat else min i.toNat n
def cut {α : Type} (xs : List α) (lo hi : Option Int) : List α := (xs.drop (cutAt xs.length 0 lo)).take (cutAt xs.length xs.length hi - cutAt xs.length 0 lo)
def partOf : Option EX → Env → Res (Option Int)
  | none, _ => .ok none
  | some a, env => (a env).bind fun
    | .int i => .ok (some i)
    | _ => .bad
def vCut : Val → Option Int → Option Int → Res Val
  | .lst xs, lo, hi => .ok (.lst (cut xs lo hi))
  | .str z, lo, hi => if z.length ≤ 16777216 then .ok (.str ⟨(cut z.cps.toList lo hi).toArray⟩) else .bad
  | .tup xs, lo, hi => if cutAt xs.length 0 lo = 0 ∧ cutAt xs.length xs.length hi = xs.length then .bad else .ok (.tup (cut xs lo hi))
  | _, _, _ => .bad
def eCut (a : EX) (lo hi : Option EX) : EX := fun env => (a env).bind fun x => (partOf lo env).bind fun l => (partOf hi env).bind fun h => vCut x l h
/-- truth -/
def truth : Val → Res Bool
  | .non => .ok false
  | .bl b => .ok b
  | .int i => .ok (i != 0)
  | .str z => if z.length ≤ 16777216 then .ok (z.length != 0) else .bad
  | .tup xs => .ok (!xs.isEmpty)
  | .lst xs => .ok (!xs.isEmpty)
  | .dct _ => .bad
  | .dck _ => .bad
  | .dcT _ => .bad
  | .ob _ _ => .bad
def bVal (a : EX) : EB := fun env => (a env).bind fun
  | .bl b => .ok b
  | _ => .bad
def bTruth (a : EX) : EB := fun env => (a env).bind truth
def bAnd (a b : EB) : EB := fun env => (a env).bind fun x => bif x then b env else .ok false
def bOr (a b : EB) : EB := fun env => (a env).bind fun x => bif x then .ok true else b env
def bNot (a : EB) : EB := fun env => (a env).bind fun x => .ok (!x)
def asBl : Val → Res Bool
  | .bl b => .ok b
  | _ => .bad
def eAnd (a b : EX) : EX := fun env => (a env).bind fun x => (asBl x).bind fun k => bif k then b env else .ok (.bl false)
def eOr (a b : EX) : EX := fun env => (a env).bind fun x => (asBl x).bind fun k => bif k then .ok (.bl true) else b env
def eNot (a : EX) : EX := fun env => (a env).bind fun x => (asBl x).bind fun k => .ok (.bl (!k))
def eIf (t : EB) (a b : EX) : EX := fun env => (t env).bind fun k => bif k then a env else b env
/-- a op b op' c -/
def eChain (f g : Val → Val → Res Val) (a b c : EX) : EX := fun env => (a env).bind fun x => (b env).bind fun y => (f x y).bind fun z => (asBl z).bind fun k => bif k then (c env).bind fun w => g y w else .ok (.bl false)
def vTup (xs : List Val) : Res Val := if xs.length ≤ 16777216 then .ok (.tup xs) else .bad
def vLst (xs : List Val) : Res Val := if xs.length ≤ 16777216 then .ok (.lst xs) else .bad
/-- d.get(k), d.get(k, z) -/
def getD (kvs : List (Key × Val)) (k z : Val) : Res Val := match keyOfV k with
  | some q => .ok ((getV kvs q).getD z)
  | none => .bad
def vLen : List Val → Res Val
  | [.lst xs] => .ok (.int xs.length)
  | [.tup xs] => .ok (.int xs.length)
  | [.str z] => if z.length ≤ 16777216 then .ok (.int z.length) else .bad
  | _ => .bad
def digitOf (z : Str) : Option Int := match z.cps.toList with
  | [c] => if 48 ≤ c ∧ c ≤ 57 then some ((c : Int) - 48) else none
  | _ => none
def vInt : List Val → Res Val
  | [.str z] => (Res.ofOpt (digitOf z)).bind fun i => .ok (.int i)
  | [.int i] => .ok (.int i)
  | [.bl b] => .ok (.int (b2i b))
  | _ => .bad
inductive Ty where
  | int | bool | str | list | tuple | dict
  deriving DecidableEq
def Val.ty : Val → Option Ty
  | .non => none
  | .bl _ => some .bool
  | .int _ => some .int
  | .str _ => some .str
  | .tup _ => some .tuple
  | .lst _ => some .list
  | .dct _ => some .dict
  | .dck _ => some .dict
  | .dcT _ => some .dict
  | .ob _ _ => none
def Ty.sub (t : Option Ty) (u : Ty) : Bool := t == some u || (t == some .bool && u == .int)
def Val.isOb : Val → Bool
  | .ob _ _ => true
  | _ => false
def vIsi (u : Ty) (x : Val) : Res Val := if x.isOb = true then .bad else .ok (.bl (Ty.sub x.ty u))
/-- a list's intsOf, bools, texts -/
def intsOf : List Val → Option (List Int)
  | [] => some []
  | .int i :: r => (intsOf r).map (i :: ·)
  | _ :: _ => none
def maxL : Int → List Int → Int
  | m, [] => m
  | m, x :: r => maxL (if x > m then x else m) r
def minL : Int → List Int → Int
  | m, [] => m
  | m, x :: r => minL (if x < m then x else m) r
def vMax : List Val → Res Val
  | [.int i, .int j] => .ok (.int (if j > i then j else i))
  | [.int i, .int j, .int k] => .ok (.int (if k > (if j > i then j else i) then k else (if j > i then j else i)))
  | [.lst xs] => (Res.ofOpt (intsOf xs)).bind fun
    | [] => .bad
    | n :: ns => .ok (.int (maxL n ns))
  | _ => .bad
def vMin : List Val → Res Val
  | [.int i, .int j] => .ok (.int (if j < i then j else i))
  | [.lst xs] => (Res.ofOpt (intsOf xs)).bind fun
    | [] => .bad
    | n :: ns => .ok (.int (minL n ns))
  | _ => .bad
def vListOf : List Val → Res Val
  | [.lst xs] => .ok (.lst xs)
  | [.tup xs] => .ok (.lst xs)
  | _ => .bad
def vTupOf : List Val → Res Val
  | [.lst xs] => .ok (.tup xs)
  | [.tup xs] => .ok (.tup xs)
  | _ => .bad
abbrev EI := Env → Res (List Val)
def itemsOf : Val → Res (List Val)
  | .lst xs => .ok xs
  | .tup xs => .ok xs
  | .str z => .ok (z.cps.toList.map fun c => .str ⟨#[c]⟩)
  | _ => .bad
def iSeq (a : EX) : EI := fun env => (a env).bind itemsOf
def rangeL (lo : Int) (n : Nat) : List Val := (List.range n).map fun (i : Nat) => Val.int (lo + (i : Int))
def iRange1 (a : EX) : EI := fun env => (a env).bind fun
  | .int j => if smallI j then .ok (rangeL 0 j.toNat) else .bad
  | _ => .bad
def iRange2 (a b : EX) : EI := fun env => (a env).bind fun x => (b env).bind fun y => match x, y with
  | .int i, .int j => if smallI i && smallI j then .ok (rangeL i (j - i).toNat) else .bad
  | _, _ => .bad
abbrev Put := Val → Env → Res Env
def pName (i : Nat) : Put := fun x env => if i < env.length then .ok (env.set i (.sh x)) else .bad
def putAll : List Nat → List Val → Env → Res Env
  | [], [], env => .ok env
  | i :: is, x :: xs, env => (pName i x env).bind fun e => putAll is xs e
  | _, _, _ => .bad
def pTup (is : List Nat) : Put := fun x env => match x with
  | .tup xs => putAll is xs env
  | _ => .bad
def pTupL (is : List Nat) : Put := fun x env => match x with
  | .lst xs => putAll is xs env
  | _ => .bad
def wipeE (env : Env) : List Nat → Env
  | [] => env
  | v :: vs => (wipeE env vs).set v .un
/-- nothing is raised -/
def Res.nx {α : Type} : Res α → Res α
  | .exc _ => .bad
  | r => r
@[simp] theorem Res.nx_ok {α : Type} (a : α) : (Res.ok a).nx = .ok a := rfl
def compL (put : Put) (tt : EB) (el : EX) (env : Env) : List Val → Res (List Val)
  | [] => .ok []
  | x :: xs => (put x env).nx.bind fun e => (tt e).nx.bind fun b => bif b then (el e).nx.bind fun y => (compL put tt el env xs).bind fun r => .ok (y :: r) else compL put tt el env xs
def bYes : EB := fun _ => .ok true
def eComp (it : EI) (own : List Nat) (put : Put) (tt : EB) (el : EX) : EX := fun env => (it env).bind fun xs => if xs.length ≤ 16777216 then (compL put tt el (wipeE env own) xs).bind fun r => .ok (.lst r) else .bad
inductive Flow where
  | next (e : Env)
  | brk (e : Env)
  | cont (e : Env)
  | ret (x : Val) (e : Env)
  | exc (x : Exn) (e : Env)
  | bad
abbrev ST := Env → Flow
def Flow.bind : Flow → (Env → Flow) → Flow
  | .next e, f => f e
  | r, _ => r
def Res.flow {α : Type} : Res α → Env → (α → Flow) → Flow
  | .ok a, _, f => f a
  | .exc x, e, _ => .exc x e
  | .bad, _, _ => .bad
@[simp] theorem Flow.bind_next (e : Env) (f : Env → Flow) : (Flow.next e).bind f = f e := rfl
@[simp] theorem Flow.bind_ret (x : Val) (e : Env) (f : Env → Flow) : (Flow.ret x e).bind f = .ret x e := rfl
@[simp] theorem Flow.bind_bad (f : Env → Flow) : Flow.bad.bind f = .bad := rfl
@[simp] theorem Flow.bind_brk (e : Env) (f : Env → Flow) : (Flow.brk e).bind f = .brk e := rfl
@[simp] theorem Flow.bind_cont (e : Env) (f : Env → Flow) : (Flow.cont e).bind f = .cont e := rfl
@[simp] theorem Flow.bind_exc (x : Exn) (e : Env) (f : Env → Flow) : (Flow.exc x e).bind f = .exc x e := rfl
@[simp] theorem Res.flow_ok {α : Type} (a : α) (e : Env) (f : α → Flow) : (Res.ok a).flow e f = f a := rfl
@[simp] theorem Res.flow_exc {α : Type} (x : Exn) (e : Env) (f : α → Flow) : (Res.exc x : Res α).flow e f = .exc x e := rfl
@[simp] theorem Res.flow_bad {α : Type} (e : Env) (f : α → Flow) : (Res.bad : Res α).flow e f = .bad := rfl
def sNext : ST := .next
def sSeq (a b : ST) : ST := fun env => (a env).bind b
def sBreak : ST := .brk
def sCont : ST := .cont
/-- x = e, nothing in e that may still change -/
def sSet (i : Nat) (a : EX) : ST := fun env => (a (hide env)).flow env fun x => if i < env.length then .next (env.set i (.sh x)) else .bad
/-- x = e, no list in the value -/
def sSetN (i : Nat) (a : EX) : ST := fun env => (a env).flow env fun x => if i < env.length ∧ x.noLst = true then .next (env.set i (.sh x)) else .bad
def sPut (p : Put) (a : EX) : ST := fun env => (a (hide env)).flow env fun x => (p x env).flow env .next
/-- a new list of the slot's own -/
def sOwn (i : Nat) (a : EX) : ST := fun env => (a (hide env)).flow env fun
  | .lst xs => if i < env.length then .next (env.set i (.oL xs)) else .bad
  | _ => .bad
def sOwnN (i : Nat) (a : EX) : ST := fun env => (a env).flow env fun
  | .lst xs => if i < env.length ∧ Val.noLsts xs = true then .next (env.set i (.oL xs)) else .bad
  | _ => .bad
/-- from here on the slot's list stays as it is -/
def sFreeze (i : Nat) : ST := fun env => match env[i]? with
  | some (.oL xs) => .next (env.set i (.sh (.lst xs)))
  | _ => .bad
def sForget (is : List Nat) : ST := fun env => .next (wipeE env is)
def sDrop (a : EX) : ST := fun env => (a env).flow env fun _ => .next env
def sAppend (i : Nat) (a : EX) : ST := fun env => match env[i]? with
  | some (.oL xs) => (a (hide env)).flow env fun x => if xs.length < 16777216 then .next (env.set i (.oL (xs ++ [x]))) else .bad
  | _ => .bad
def sAppendN (i : Nat) (a : EX) : ST := fun env => match env[i]? with
  | some (.oL xs) => (a env).flow env fun x => if xs.length < 16777216 ∧ x.noLst = true then .next (env.set i (.oL (xs ++ [x]))) else .bad
  | _ => .bad
/-- x[k] = e in a list of the slot's own; e: nothing that may still change | e: no list in it -/
def itemPut (i : Nat) (env : Env) (x k : Val) : Flow := match env[i]?, k with
  | some (.oL xs), .int k => (match ixNat xs.length k with
    | some j => .next (env.set i (.oL (xs.set j x)))
    | none => .bad)
  | _, _ => .bad
def sItem (i : Nat) (b a : EX) : ST := fun env => (a (hide env)).flow env fun x => (b env).flow env fun k => itemPut i env x k
def sItemN (i : Nat) (b a : EX) : ST := fun env => (a env).flow env fun x => if x.noLst = true then (b env).flow env fun k => itemPut i env x k else .bad
/-- the slot has a list of its own -/
def sOn (i : Nat) (m : ST) : ST := fun env => match env[i]? with
  | some (.oL _) => m env
  | _ => .bad
def sAug (f : Val → Val → Res Val) (i : Nat) (a : EX) : ST := fun env => match env[i]? with
  | some (.sh x) => (a env).flow env fun y => (f x y).flow env fun z => if z.noLst = true then .next (env.set i (.sh z)) else .bad
  | _ => .bad
def sIf (t : EB) (a b : ST) : ST := fun env => (t env).flow env fun k => bif k then a env else b env
def sRet (a : EX) : ST := fun env => (a env).flow env fun x => .ret x env
def sRetN : ST := fun env => .ret .non env
def forL (put : Put) (body : ST) : List Val → Env → Flow
  | [], env => .next env
  | x :: xs, env => (put x env).nx.flow env fun e => match body e with
    | .next e' => forL put body xs e'
    | .cont e' => forL put body xs e'
    | .brk e' => .next e'
    | .ret v e' => .ret v e'
    | .exc q e' => .exc q e'
    | .bad => .bad
def sFor (it : EI) (put : Put) (body : ST) : ST := fun env => (it (hide env)).flow env fun xs => forL put body xs env
/-- at most n turns -/
def whileL (t : EB) (body : ST) : Nat → Env → Flow
  | 0, _ => .bad
  | n + 1, env => (t env).flow env fun k => bif k then (match body env with
    | .next e' => whileL t body n e'
    | .cont e' => whileL t body n e'
    | .brk e' => .next e'
    | .ret v e' => .ret v e'
    | .exc q e' => .exc q e'
    | .bad => .bad) else .next env
def sWhile (n : Nat) (t : EB) (body : ST) : ST := fun env => whileL t body n env
def sRaise (q : Exn) : ST := fun env => .exc q env
/-- nothing is raised -/
def Flow.calm : Flow → Flow
  | .exc _ _ => .bad
  | r => r
/-- try: body; except c: suite; tab says which classes c meets -/
def sTry (tab : List (Str × Bool)) (body : ST) (su : Exn → ST) : ST := fun env => match body env with
  | .exc q e => (match tab.lookup q.cls with
    | some true => (su q e).calm
    | some false => .exc q e
    | none => .bad)
  | r => r
inductive DR where
  | ret (x : Val)
  | exc (e : Exn)
  | bad
abbrev Fn := List Val → DR
def startE (n : Nat) (xs : List Val) : Env := xs.map Slot.sh ++ List.replicate (n - xs.length) Slot.un
/-- a def of k parameters and n slots in all -/
def defn (k n : Nat) (body : ST) : Fn := fun xs => if xs.length = k then (match body (startE n xs) with
  | .next _ => .ret .non
  | .ret x _ => .ret x
  | .exc e _ => .exc e
  | _ => .bad) else .bad
def DR.res : DR → Res Val
  | .ret x => .ok x
  | .exc e => .exc e
  | .bad => .bad
def eCall (f : Fn) (a : EL) : EX := fun env => (a env).bind fun xs => (f xs).res
end Vm
end
namespace Vm
open PySem L2
abbrev Sub (H H' : Hp) : Prop := Same H H'
/-- the tables of code objects of the defs that make lambdas, with the lambdas' names -/
class TabsOf where
  T : List (Addr × Str)
instance (priority := low) TabsOf.none : TabsOf := ⟨[]⟩
section
variable [TabsOf]
def ntb : HO → Bool
  | .tbl _ => false
  | _ => true
/-- all but tables stays -/
structure Hh (H H' : Hp) : Prop where
  to : ∀ b o, H b = some o → ntb o = true → H' b = some o
  ne : ∀ b, H' b = Option.none → H b = Option.none
theorem Hh.of {H H' : Hp} (e : ∀ b o, H b = some o → H' b = some o) : Hh H H' := ⟨fun b o h _ => e b o h, fun b h => by
  cases q : H b with
  | none => rfl
  | some o => rw [e b o q] at h; cases h⟩
theorem Hh.refl (H : Hp) : Hh H H := .of fun _ _ h => h
theorem Hh.trans {H H1 H2 : Hp} (a : Hh H H1) (b : Hh H1 H2) : Hh H H2 := ⟨fun c o h n => b.to c o (a.to c o h n) n, fun c h => a.ne c (b.ne c h)⟩
theorem Hh.free {H H' : Hp} (e : Hh H H') {l : Addr} (h : H' l = Option.none) : H l = Option.none := e.ne l h
theorem Hh.upd {H H' : Hp} {p : Addr} {o : HO} (e : Hh H H') (h : H p = Option.none) : Hh H (upd H' p o) := ⟨fun b u q n => by rw [upd_ne (ne_of_none q h)]; exact e.to b u q n, fun b q => by
  by_cases hb : b = p
  · rw [hb]; exact h
  · rw [upd_ne hb] at q; exact e.ne b q⟩
/-- N stands within H; no tables in N -/
structure Inn (N H : Hp) : Prop where
  sub : Sub N H
  tt : LamX.Tabs TabsOf.T H
  nt : ∀ b o, N b = some o → ntb o = true
instance {N H : Hp} : CoeFun (Inn N H) fun _ => ∀ b o, N b = some o → H b = some o := ⟨Inn.sub⟩
instance {N H : Hp} : Coe (Inn N H) (Same N H) := ⟨Inn.sub⟩
theorem Inn.free {H H' : Hp} (e : Inn H H') {l : Addr} (h : H' l = Option.none) : H l = Option.none := e.sub.free h
/-- a new thing, in N too or not -/
theorem Inn.new {N H : Hp} {p : Addr} {o : HO} (e : Inn N H) (h : H p = Option.none) (ho : ntb o = true := by rfl) : Inn (upd N p o) (upd H p o) := ⟨fun b u q => by
  by_cases hb : b = p
  · subst hb; rw [upd_same] at q ⊢; exact q
  · rw [upd_ne hb] at q ⊢; exact e.sub b u q, e.tt.ext fun b u q => by rw [upd_ne (ne_of_none q h)]; exact q, fun b u q => by
  by_cases hb : b = p
  · subst hb; rw [upd_same] at q; cases q; exact ho
  · rw [upd_ne hb] at q; exact e.nt b u q⟩
theorem Inn.newH {N H : Hp} {p : Addr} {o : HO} (e : Inn N H) (h : H p = Option.none) : Inn N (upd H p o) := ⟨fun b u q => by
  rw [upd_ne (ne_of_none (e.sub b u q) h)]; exact e.sub b u q, e.tt.ext fun b u q => by rw [upd_ne (ne_of_none q h)]; exact q, e.nt⟩
/-- what may be written without harm to a table -/
def Wr : HO → Bool
  | .tbl _ => false
  | .ext _ => false
  | _ => true
theorem tabs_wr {T : List (Addr × Str)} {H : Hp} {p : Addr} {o u : HO} (t : LamX.Tabs T H) (h : H p = some u) (hw : Wr u = true) : LamX.Tabs T (upd H p o) := fun q hq => by
  obtain ⟨ps, h1, h2, h3⟩ := t q hq
  refine ⟨ps, ?_, h2, fun pos cv hc => ?_⟩
  · rw [upd_ne fun z => by rw [z, h] at h1; cases h1; cases hw]; exact h1
  · obtain ⟨c, e1, e2⟩ := h3 pos cv hc
    refine ⟨c, e1, ?_⟩
    rw [upd_ne fun z => by rw [z, h] at e2; cases e2; cases hw]; exact e2
theorem wr_ntb {o : HO} (h : Wr o = true) : ntb o = true := by cases o <;> first | rfl | cases h
/-- a thing that is not in N is written -/
theorem Inn.wr {N H : Hp} {p : Addr} {o u : HO} (e : Inn N H) (hN : N p = Option.none) (h : H p = some u) (hw : Wr u = true := by rfl) : Inn N (upd H p o) := ⟨fun b v q => by
  rw [upd_ne (ne_of_none q hN)]; exact e.sub b v q, tabs_wr e.tt h hw, e.nt⟩
/-- .. and is in N from now on -/
theorem Inn.put {N H : Hp} {p : Addr} {o u : HO} (e : Inn N H) (hN : N p = Option.none) (h : H p = some u) (hw : Wr u = true := by rfl) (ho : ntb o = true := by rfl) : Inn (upd N p o) (upd H p o) := ⟨fun b v q => by
  by_cases hb : b = p
  · subst hb; rw [upd_same] at q ⊢; exact q
  · rw [upd_ne hb] at q ⊢; exact e.sub b v q, tabs_wr e.tt h hw, fun b v q => by
  by_cases hb : b = p
  · subst hb; rw [upd_same] at q; cases q; exact ho
  · rw [upd_ne hb] at q; exact e.nt b v q⟩
/-- what stands in H is in N from now on -/
theorem Inn.add {N H : Hp} {p : Addr} {o : HO} (e : Inn N H) (h : H p = some o) (ho : ntb o = true := by rfl) : Inn (upd N p o) H := ⟨fun b v q => by
  by_cases hb : b = p
  · subst hb; rw [upd_same] at q; cases q; exact h
  · rw [upd_ne hb] at q; exact e.sub b v q, e.tt, fun b v q => by
  by_cases hb : b = p
  · subst hb; rw [upd_same] at q; cases q; exact ho
  · rw [upd_ne hb] at q; exact e.nt b v q⟩
/-- any part of H that has no tables -/
theorem Inn.part {N N' H : Hp} (e : Inn N H) (h : ∀ b o, N' b = some o → H b = some o ∧ (N b = some o ∨ ntb o = true)) : Inn N' H := ⟨fun b o q => (h b o q).1, e.tt, fun b o q => (h b o q).2.elim (e.nt b o) id⟩
/-- a thing is hidden again -/
theorem Inn.hid {N H : Hp} {D : Addr} {u : HO} (e : Inn N H) (hN : N D = Option.none) (h : H D = some u) (hw : Wr u = true := by rfl) : Inn N (fun a => if a = D then Option.none else H a) := ⟨fun b v q => by
  show (if b = D then Option.none else H b) = some v
  rw [if_neg (ne_of_none q hN)]; exact e.sub b v q, fun q hq => by
  obtain ⟨ps, h1, h2, h3⟩ := e.tt q hq
  refine ⟨ps, ?_, h2, fun pos cv hc => ?_⟩
  · show (if q.1 = D then Option.none else H q.1) = _
    rw [if_neg fun z => by rw [z, h] at h1; cases h1; cases hw]; exact h1
  · obtain ⟨c, e1, e2⟩ := h3 pos cv hc
    refine ⟨c, e1, ?_⟩
    show (if c = D then Option.none else H c) = _
    rw [if_neg fun z => by rw [z, h] at e2; cases e2; cases hw]; exact e2, e.nt⟩
theorem Hh.hid {H H' : Hp} {D : Addr} (e : Hh H H') (h : H D = Option.none) : Hh H (fun a => if a = D then Option.none else H' a) := ⟨fun b u q n => by
  show (if b = D then Option.none else H' b) = some u
  rw [if_neg (ne_of_none q h)]; exact e.to b u q n, fun b q => by
  have q : (if b = D then Option.none else H' b) = Option.none := q
  by_cases hb : b = D
  · rw [hb]; exact h
  · rw [if_neg hb] at q; exact e.ne b q⟩
/-- from N within H to N' within H': only new things -/
structure Gr (N H N' H' : Hp) : Prop where
  hh : Hh H H'
  nn : Sub N N'
  nh : Inn N' H'
  nw : ∀ a, N' a ≠ none → N a ≠ none ∨ H a = none
theorem Gr.refl {N H : Hp} (e : Inn N H) : Gr N H N H := ⟨Hh.refl _, Same.refl _, e, fun _ h => .inl h⟩
theorem Gr.trans {N H N1 H1 N2 H2 : Hp} (a : Gr N H N1 H1) (b : Gr N1 H1 N2 H2) : Gr N H N2 H2 :=
  ⟨a.hh.trans b.hh, a.nn.trans b.nn, b.nh, fun x h => by
    rcases b.nw x h with q | q
    · exact a.nw x q
    · exact .inr (a.hh.free q)⟩
theorem Gr.new {N H : Hp} {p : Addr} {o : HO} (e : Inn N H) (h : H p = none) (ho : ntb o = true := by rfl) : Gr N H (upd N p o) (upd H p o) := by
  refine ⟨(Hh.refl H).upd h, fun b u q => by rw [upd_ne (ne_of_none (e b u q) h)]; exact q, e.new h ho, fun b q => ?_⟩
  · by_cases hb : b = p
    · subst hb; exact .inr h
    · rw [upd_ne hb] at q; exact .inl q
theorem Gr.newH {N H : Hp} {p : Addr} {o : HO} (e : Inn N H) (h : H p = none) : Gr N H N (upd H p o) := ⟨(Hh.refl H).upd h, Same.refl _, e.newH h, fun a q => .inl q⟩
theorem Inn.low {M1 M H : Hp} (I : Inn M H) (e : Sub M1 M) : Inn M1 H := ⟨e.trans I.sub, I.tt, fun b o q => I.nt b o (e b o q)⟩
/-- what an item made, beside what stood -/
theorem Gr.join {M1 M Hi Nx Hx : Hp} (gx : Gr M1 Hi Nx Hx) (I : Inn M Hi) (e : Sub M1 M) : Gr M Hi (fun a => if Nx a = Option.none then M a else Nx a) Hx := by
  have I' : Inn M Hx := ⟨fun b o q => gx.hh.to b o (I b o q) (I.nt b o q), gx.nh.tt, I.nt⟩
  refine ⟨gx.hh, fun a o q => ?_, ⟨fun a o q => ?_, gx.nh.tt, fun a o q => ?_⟩, fun a q => ?_⟩
  · show (if Nx a = Option.none then M a else Nx a) = some o
    by_cases hz : Nx a = Option.none
    · rw [if_pos hz]; exact q
    · rw [if_neg hz]
      cases hq : Nx a with
      | none => exact absurd hq hz
      | some o' =>
        have h1 := gx.nh a o' hq
        have h2 := I' a o q
        rw [h1] at h2
        exact h2
  · have q' : (if Nx a = Option.none then M a else Nx a) = some o := q
    by_cases hz : Nx a = Option.none
    · rw [if_pos hz] at q'; exact I' a o q'
    · rw [if_neg hz] at q'; exact gx.nh a o q'
  · have q' : (if Nx a = Option.none then M a else Nx a) = some o := q
    by_cases hz : Nx a = Option.none
    · rw [if_pos hz] at q'; exact I.nt a o q'
    · rw [if_neg hz] at q'; exact gx.nh.nt a o q'
  · have q' : (if Nx a = Option.none then M a else Nx a) ≠ Option.none := q
    by_cases hz : Nx a = Option.none
    · rw [if_pos hz] at q'; exact .inl q'
    · rcases gx.nw a hz with h1 | h1
      · cases hq : M1 a with
        | none => exact absurd hq h1
        | some o => exact .inl (by rw [e a o hq]; simp)
      · exact .inr h1
theorem Inn.ext {N H H' : Hp} (I : Inn N H) (e : ∀ b o, H b = some o → H' b = some o) : Inn N H' := ⟨fun b o q => e b o (I b o q), I.tt.ext e, I.nt⟩
/-- things are hidden again -/
theorem Inn.hidF {N H : Hp} {f : List Addr} (e : Inn N H) (hN : ∀ a ∈ f, N a = Option.none) (hk : ∀ a ∈ f, ∃ u, H a = some u ∧ Wr u = true) : Inn N (fun a => if a ∈ f then Option.none else H a) := ⟨fun b v q => by
  show (if b ∈ f then Option.none else H b) = some v
  rw [if_neg fun hb => by rw [hN b hb] at q; cases q]; exact e.sub b v q, fun q hq => by
  obtain ⟨ps, h1, h2, h3⟩ := e.tt q hq
  refine ⟨ps, ?_, h2, fun pos cv hc => ?_⟩
  · show (if q.1 ∈ f then Option.none else H q.1) = _
    rw [if_neg fun z => by obtain ⟨u, h, hw⟩ := hk _ z; rw [h] at h1; cases h1; cases hw]; exact h1
  · obtain ⟨c, e1, e2⟩ := h3 pos cv hc
    refine ⟨c, e1, ?_⟩
    show (if c ∈ f then Option.none else H c) = _
    rw [if_neg fun z => by obtain ⟨u, h, hw⟩ := hk _ z; rw [h] at e2; cases e2; cases hw]; exact e2, e.nt⟩
theorem Hh.hidF {H H' : Hp} {f : List Addr} (e : Hh H H') (h : ∀ a ∈ f, H a = Option.none) : Hh H (fun a => if a ∈ f then Option.none else H' a) := ⟨fun b u q n => by
  show (if b ∈ f then Option.none else H' b) = some u
  rw [if_neg fun hb => by rw [h b hb] at q; cases q]; exact e.to b u q n, fun b q => by
  have q : (if b ∈ f then Option.none else H' b) = Option.none := q
  by_cases hb : b ∈ f
  · exact h b hb
  · rw [if_neg hb] at q; exact e.ne b q⟩
theorem Hh.upd2 {H H' : Hp} {D : Addr} {o : HO} (e : Hh H H') : Hh (L2.upd H D o) (L2.upd H' D o) := ⟨fun b u q n => by
  by_cases hb : b = D
  · subst hb; rw [upd_same] at q ⊢; exact q
  · rw [upd_ne hb] at q ⊢; exact e.to b u q n, fun b q => by
  by_cases hb : b = D
  · subst hb; rw [upd_same] at q; cases q
  · rw [upd_ne hb] at q ⊢; exact e.ne b q⟩
theorem Hh.upd3 {H H' : Hp} {D : Addr} {o u : HO} (e : Hh (L2.upd H D o) H') : Hh (L2.upd H D u) (L2.upd H' D u) := by
  have := e.upd2 (D := D) (o := u)
  rwa [show L2.upd (L2.upd H D o) D u = L2.upd H D u from upd_upd] at this
theorem Hh.unupd {H H' : Hp} {D : Addr} {o : HO} (e : Hh (L2.upd H D o) H') (h : H D = Option.none) : Hh H H' := ((Hh.refl H).upd h).trans e
theorem Gr.keep {N H N' H' : Hp} (g : Gr N H N' H') {a : Addr} {o : HO} (h : N a = some o) : H' a = some o := g.nh a o (g.nn a o h)
/-- what stood within H goes on -/
theorem Gr.up {N H N' H' M : Hp} (g : Gr N H N' H') (e : Inn M H) : Inn M H' := ⟨fun b o q => g.hh.to b o (e b o q) (e.nt b o q), g.nh.tt, e.nt⟩
end
theorem sq_mono {K : PySem.W.Frag} {H H' : Hp} {a : Addr} {xs : List V} (e : Sub H H') (h : SqL K H a xs) : SqL K H' a xs := e.seq h
/-- a tuple that stands as it is, or one of the module -/
def SqP (K : PySem.W.Frag) (H : Hp) (a : Addr) (xs : List V) : Prop :=
  H a = some (.tup xs) ∨
    ∃ (o : Obj) (its : Array Value) (n : Nat), K.lookup a = some o ∧ o.cls = .type "tuple" ∧ o.data = .seq its n ∧ its.size ≤ sizeLine ∧ Vals xs its.toList
theorem SqP.of {K : PySem.W.Frag} {H : Hp} {a : Addr} {xs : List V} (h : H a = some (.tup xs)) : SqP K H a xs := .inl h
theorem sp_mono {K : PySem.W.Frag} {H H' : Hp} {a : Addr} {xs : List V} (e : Sub H H') (h : SqP K H a xs) : SqP K H' a xs := Or.imp (e _ _) id h
theorem st_mono {K : PySem.W.Frag} {H H' : Hp} {a : Addr} {xs : List V} (e : Sub H H') (h : SqP K H a xs) : SqT K H' a xs := Or.imp (fun h => .inl (e _ _ h)) id h
/-- a dict that may be read -/
def SqD (H : Hp) (a : Addr) (kvs : List (L2.Key × V)) : Prop := L2.Rd H a (.dK kvs)
theorem SqD.mono {H H' : Hp} {a : Addr} {kvs : List (L2.Key × V)} (e : ∀ b o, H b = some o → H' b = some o) (h : SqD H a kvs) : SqD H' a kvs := Or.imp (e _ _) (fun ⟨o, q⟩ => ⟨o, e _ _ q⟩) h
theorem SqD.get {H : Hp} {a : Addr} {kvs : List (L2.Key × V)} {k : L2.Key} (h : SqD H a kvs) : DGet H a (L2.kV k) (L2.valV kvs k) := .inl ⟨kvs, k, h, rfl, rfl⟩
mutual
inductive RV (K : PySem.W.Frag) (N : Hp) : V → Val → Prop
  | non : RV K N .non .non
  | bl (b : Bool) : RV K N (.bl b) (.bl b)
  | int (i : Int) : RV K N (.int i) (.int i)
  | str (x : Str) : RV K N (.str x) (.str x)
  | tup {a : Addr} {vs : List V} {xs : List Val} : SqP K N a vs → RVs K N vs xs → RV K N (.ref a) (.tup xs)
  | lst {a : Addr} {vs : List V} {xs : List Val} : SqL K N a vs → RVs K N vs xs → RV K N (.ref a) (.lst xs)
  | dct {a : Addr} {kvs : List (L2.Key × V)} {ys : List (Key × Val)} : SqD N a kvs → RKs K N kvs ys → RV K N (.ref a) (.dct ys)
  | dck {a : Addr} {od : Obj} {kvs : List (L2.Key × V)} {ys : List (Key × Val)} : N a = some (.frz od (.dK kvs)) → RKs K N kvs ys → RV K N (.ref a) (.dck ys)
  | dcT {a : Addr} {kvs : List (List L2.Key × V)} {ys : List (List Key × Val)} : N a = some (.dT kvs) → RTs K N kvs ys → RV K N (.ref a) (.dcT ys)
  | ob {a dx : Addr} {c : Str} {fs : List (Str × V)} {ys : List (Str × Val)} : N a = some (.ins (He.ga K c) dx fs) → RFs K N fs ys → RV K N (.ref a) (.ob c ys)
inductive RVs (K : PySem.W.Frag) (N : Hp) : List V → List Val → Prop
  | nil : RVs K N [] []
  | cons {v : V} {vs : List V} {x : Val} {xs : List Val} : RV K N v x → RVs K N vs xs → RVs K N (v :: vs) (x :: xs)
inductive RKs (K : PySem.W.Frag) (N : Hp) : List (L2.Key × V) → List (Key × Val) → Prop
  | nil : RKs K N [] []
  | cons {k : Key} {v : V} {vs : List (L2.Key × V)} {x : Val} {xs : List (Key × Val)} : RV K N v x → RKs K N vs xs → RKs K N ((k, v) :: vs) ((k, x) :: xs)
inductive RTs (K : PySem.W.Frag) (N : Hp) : List (List L2.Key × V) → List (List Key × Val) → Prop
  | nil : RTs K N [] []
  | cons {k : List Key} {v : V} {vs : List (List L2.Key × V)} {x : Val} {xs : List (List Key × Val)} : RV K N v x → RTs K N vs xs → RTs K N ((k, v) :: vs) ((k, x) :: xs)
inductive RFs (K : PySem.W.Frag) (N : Hp) : List (Str × V) → List (Str × Val) → Prop
  | nil : RFs K N [] []
  | cons {k : Str} {v : V} {vs : List (Str × V)} {x : Val} {xs : List (Str × Val)} : RV K N v x → RFs K N vs xs → RFs K N ((k, v) :: vs) ((k, x) :: xs)
end
section
variable {K : PySem.W.Frag} {N N' : Hp}
mutual
theorem RV.mono (e : Sub N N') : ∀ (x : Val) {v : V}, RV K N v x → RV K N' v x
  | .non, _, .non => .non
  | .bl _, _, .bl b => .bl b
  | .int _, _, .int i => .int i
  | .str _, _, .str x => .str x
  | .tup xs, _, .tup h r => .tup (sp_mono e h) (RVs.mono e xs r)
  | .lst xs, _, .lst h r => .lst (sq_mono e h) (RVs.mono e xs r)
  | .dct xs, _, .dct h r => .dct (h.mono e) (RKs.mono e xs r)
  | .dck xs, _, .dck h r => .dck (e _ _ h) (RKs.mono e xs r)
  | .dcT xs, _, .dcT h r => .dcT (e _ _ h) (RTs.mono e xs r)
  | .ob c xs, _, .ob h r => .ob (e _ _ h) (RFs.mono e xs r)
theorem RVs.mono (e : Sub N N') : ∀ (xs : List Val) {vs : List V}, RVs K N vs xs → RVs K N' vs xs
  | [], _, .nil => .nil
  | x :: xs, _, .cons h r => .cons (RV.mono e x h) (RVs.mono e xs r)
theorem RKs.mono (e : Sub N N') : ∀ (xs : List (Key × Val)) {vs : List (L2.Key × V)}, RKs K N vs xs → RKs K N' vs xs
  | [], _, .nil => .nil
  | (_, x) :: xs, _, .cons h r => .cons (RV.mono e x h) (RKs.mono e xs r)
theorem RTs.mono (e : Sub N N') : ∀ (xs : List (List Key × Val)) {vs : List (List L2.Key × V)}, RTs K N vs xs → RTs K N' vs xs
  | [], _, .nil => .nil
  | (_, x) :: xs, _, .cons h r => .cons (RV.mono e x h) (RTs.mono e xs r)
theorem RFs.mono (e : Sub N N') : ∀ (xs : List (Str × Val)) {vs : List (Str × V)}, RFs K N vs xs → RFs K N' vs xs
  | [], _, .nil => .nil
  | (_, x) :: xs, _, .cons h r => .cons (RV.mono e x h) (RFs.mono e xs r)
end
theorem RVs.length : ∀ {vs : List V} {xs : List Val}, RVs K N vs xs → vs.length = xs.length
  | _, _, .nil => rfl
  | _, _, .cons _ r => congrArg (· + 1) r.length
theorem RVs.append : ∀ {vs ws : List V} {xs ys : List Val}, RVs K N vs xs → RVs K N ws ys → RVs K N (vs ++ ws) (xs ++ ys)
  | _, _, _, _, .nil, s => s
  | _, _, _, _, .cons h r, s => .cons h (r.append s)
theorem RVs.get : ∀ {vs : List V} {xs : List Val} {i : Nat} {x : Val}, RVs K N vs xs → xs[i]? = some x → ∃ v, vs[i]? = some v ∧ RV K N v x
  | _, _, _, _, .nil, e => by simp at e
  | _, _, 0, _, .cons h _, e => by simp at e; subst e; exact ⟨_, rfl, h⟩
  | _, _, i + 1, x, .cons _ r, e => by
    obtain ⟨v, h1, h2⟩ := r.get (i := i) (x := x) (by simpa using e)
    exact ⟨v, by simpa using h1, h2⟩
theorem RVs.getV : ∀ {vs : List V} {xs : List Val} {i : Nat} {v : V}, RVs K N vs xs → vs[i]? = some v → ∃ x, xs[i]? = some x ∧ RV K N v x
  | _, _, _, _, .nil, e => by simp at e
  | _, _, 0, _, .cons h _, e => by simp at e; subst e; exact ⟨_, rfl, h⟩
  | _, _, i + 1, x, .cons _ r, e => by
    obtain ⟨v, h1, h2⟩ := r.getV (i := i) (v := x) (by simpa using e)
    exact ⟨v, by simpa using h1, h2⟩
theorem RVs.take : ∀ {vs : List V} {xs : List Val} (n : Nat), RVs K N vs xs → RVs K N (vs.take n) (xs.take n)
  | _, _, 0, _ => .nil
  | _, _, _ + 1, .nil => .nil
  | _, _, n + 1, .cons h r => .cons h (r.take n)
theorem RVs.drop : ∀ {vs : List V} {xs : List Val} (n : Nat), RVs K N vs xs → RVs K N (vs.drop n) (xs.drop n)
  | _, _, 0, r => r
  | _, _, _ + 1, .nil => .nil
  | _, _, n + 1, .cons _ r => r.drop n
/-- flat values -/
def toV : Val → V
  | .bl b => .bl b
  | .int i => .int i
  | .str x => .str x
  | _ => .non
theorem RV.flat {v : V} {x : Val} (r : RV K N v x) (h : x.isFlat = true) : v = toV x ∧ flatV v = true := by
  cases r <;> first
    | exact ⟨rfl, rfl⟩
    | exact absurd h (by simp [Val.isFlat])
theorem RVs.flats : ∀ {vs : List V} {xs : List Val}, RVs K N vs xs → xs.all Val.isFlat = true → vs = xs.map toV ∧ vs.all flatV = true
  | _, _, .nil, _ => ⟨rfl, rfl⟩
  | _, _, .cons h r, e => by
    rw [List.all_cons, Bool.and_eq_true] at e
    obtain ⟨h1, h2⟩ := h.flat e.1
    obtain ⟨h3, h4⟩ := r.flats e.2
    exact ⟨by rw [List.map_cons, ← h1, ← h3], by rw [List.all_cons, h2, h4]; rfl⟩
theorem eqV_of {x y : Val} (hx : x.isFlat = true) (hy : y.isFlat = true) : eqV (toV x) (toV y) = eqv x y := by
  cases x <;> cases y <;> first
    | rfl
    | (simp [Val.isFlat] at hx; done)
    | (simp [Val.isFlat] at hy; done)
    | (simp [toV, eqV, eqv, b2i]; done)
theorem inV_of {x : Val} {xs : List Val} (hx : x.isFlat = true) (hs : xs.all Val.isFlat = true) : inV (toV x) (xs.map toV) = inFlat x xs := by
  unfold inV inFlat
  rw [List.any_map]
  induction xs with
  | nil => rfl
  | cons y ys ih =>
    rw [List.all_cons, Bool.and_eq_true] at hs
    rw [List.any_cons, List.any_cons, ih hs.2]
    congr 1
    exact eqV_of hs.1 hx
mutual
def toD : Val → PyData
  | .non => .none
  | .bl b => .bool b
  | .int i => .int i
  | .str x => .str x
  | .tup xs => .tuple (toDs xs)
  | .lst xs => .list (toDs xs)
  | .dct _ => .none
  | .dcT _ => .none
  | .dck _ => .none
  | .ob _ _ => .none
def toDs : List Val → List PyData
  | [] => []
  | x :: xs => toD x :: toDs xs
end
mutual
theorem eqv_toD : ∀ (x y : Val), x.isData = true → y.isData = true → PyData.eqv (toD x) (toD y) = eqv x y
  | .non, y, _, hy => by cases y <;> first | rfl | (simp [Val.isData] at hy; done) | (simp [toD, PyData.eqv, eqv]; done)
  | .bl b, y, _, hy => by cases y <;> first | rfl | (simp [Val.isData] at hy; done) | (simp [toD, PyData.eqv, eqv, b2i]; done)
  | .int b, y, _, hy => by cases y <;> first | rfl | (simp [Val.isData] at hy; done) | (simp [toD, PyData.eqv, eqv, b2i]; done)
  | .str b, y, _, hy => by cases y <;> first | rfl | (simp [toD, PyData.eqv, eqv]; done) | (simp [Val.isData] at hy; done)
  | .tup xs, y, hx, hy => by
    cases y with
    | tup ys =>
      simp only [toD, PyData.eqv, eqv]
      exact eqvs_toDs xs ys hx hy
    | dct _ => simp [Val.isData] at hy
    | dcT _ => simp [Val.isData] at hy
    | dck _ => simp [Val.isData] at hy
    | ob _ _ => simp [Val.isData] at hy
    | _ => simp [toD, PyData.eqv, eqv]
  | .lst xs, y, hx, hy => by
    cases y with
    | lst ys =>
      simp only [toD, PyData.eqv, eqv]
      exact eqvs_toDs xs ys hx hy
    | dct _ => simp [Val.isData] at hy
    | dcT _ => simp [Val.isData] at hy
    | dck _ => simp [Val.isData] at hy
    | ob _ _ => simp [Val.isData] at hy
    | _ => simp [toD, PyData.eqv, eqv]
  | .dct _, _, hx, _ => by simp [Val.isData] at hx
  | .dcT _, _, hx, _ => by simp [Val.isData] at hx
  | .dck _, _, hx, _ => by simp [Val.isData] at hx
  | .ob _ _, _, hx, _ => by simp [Val.isData] at hx
theorem eqvs_toDs : ∀ (xs ys : List Val), Val.isDatas xs = true → Val.isDatas ys = true → PyData.eqvAll (toDs xs) (toDs ys) = eqvs xs ys
  | [], [], _, _ => rfl
  | [], _ :: _, _, _ => rfl
  | _ :: _, [], _, _ => rfl
  | x :: xs, y :: ys, hx, hy => by
    simp only [Val.isDatas, Bool.and_eq_true] at hx hy
    simp only [toDs, PyData.eqvAll, eqvs]
    rw [eqv_toD x y hx.1 hy.1, eqvs_toDs xs ys hx.2 hy.2]
end
mutual
theorem canLay_toD : ∀ (x : Val), x.isData = true → (toD x).canLay0 = true
  | .non, _ => rfl
  | .bl _, _ => rfl
  | .int _, _ => rfl
  | .str x, h => by simp only [toD, PyData.canLay0, PyData.strOk]; exact h
  | .dct _, h => by simp [Val.isData] at h
  | .dcT _, h => by simp [Val.isData] at h
  | .dck _, h => by simp [Val.isData] at h
  | .ob _ _, h => by simp [Val.isData] at h
  | .tup xs, h => by simp only [toD, PyData.canLay0]; exact canLays_toDs xs h
  | .lst xs, h => by simp only [toD, PyData.canLay0]; exact canLays_toDs xs h
theorem canLays_toDs : ∀ (xs : List Val), Val.isDatas xs = true → PyData.canLayAll0 (toDs xs) = true
  | [], _ => rfl
  | x :: xs, h => by
    simp only [Val.isDatas, Bool.and_eq_true] at h
    simp only [toDs, PyData.canLayAll0, canLay_toD x h.1, canLays_toDs xs h.2, Bool.and_self]
end
mutual
theorem depth_toD : ∀ (x : Val), (toD x).depth = x.depth
  | .non => rfl
  | .bl _ => rfl
  | .int _ => rfl
  | .str _ => rfl
  | .dct _ => rfl
  | .dcT _ => rfl
  | .dck _ => rfl
  | .ob _ _ => rfl
  | .tup xs => by simp only [toD, PyData.depth, Val.depth]; rw [depths_toDs xs]
  | .lst xs => by simp only [toD, PyData.depth, Val.depth]; rw [depths_toDs xs]
theorem depths_toDs : ∀ (xs : List Val), PyData.depthAll (toDs xs) = Val.depths xs
  | [] => rfl
  | x :: xs => by simp only [toDs, PyData.depthAll, Val.depths]; rw [depth_toD x, depths_toDs xs]
end
theorem shaped_toD {x : Val} (hd : x.isData = true) (h : x.depth ≤ 64) : SeqAt.shaped (toD x) = true := by
  unfold SeqAt.shaped
  rw [canLay_toD x hd, depth_toD, decide_eq_true h]
  rfl
theorem RV.scal {v w : V} {x y : Val} (rx : RV K N v x) (ry : RV K N w y) (h : scal2 x y = true) : L2.scal v w = true ∧ decide (v = w) = eqv x y := by
  cases rx <;> cases ry <;> first
    | (simp [scal2, Val.isFlat] at h; done)
    | (refine ⟨rfl, ?_⟩; simp [eqv]; done)
    | (refine ⟨rfl, ?_⟩; simp [eqv]; rfl)
    | (refine ⟨rfl, ?_⟩; rename_i a b; cases a <;> cases b <;> rfl)
mutual
theorem RV.dp : ∀ (x : Val) {v : V}, RV K N v x → x.isData = true → Dp K N v (toD x)
  | .non, _, .non, _ => .non
  | .bl _, _, .bl b, _ => .bl b
  | .int _, _, .int b, _ => .int b
  | .str _, _, .str b, _ => .str b
  | .tup xs, _, .tup h r, e => .tup (st_mono (Same.refl _) h) (RVs.dp xs r e)
  | .lst xs, _, .lst h r, e => .lst h (RVs.dp xs r e)
  | .dct _, _, .dct _ _, e => by simp [Val.isData] at e
  | .dcT _, _, .dcT _ _, e => by simp [Val.isData] at e
  | .dck _, _, .dck _ _, e => by simp [Val.isData] at e
  | .ob _ _, _, .ob _ _, e => by simp [Val.isData] at e
theorem RVs.dp : ∀ (xs : List Val) {vs : List V}, RVs K N vs xs → Val.isDatas xs = true → DpAll K N vs (toDs xs)
  | [], _, .nil, _ => .nil
  | x :: xs, _, .cons h r, e => by
    simp only [Val.isDatas, Bool.and_eq_true] at e
    exact .cons (RV.dp x h e.1) (RVs.dp xs r e.2)
end
theorem intsOf_eq : ∀ {xs : List Val} {ns : List Int}, intsOf xs = some ns → xs = ns.map Val.int
  | [], ns, h => by simp [intsOf] at h; subst h; rfl
  | x :: xs, ns, h => by
    cases x with
    | int i =>
      simp only [intsOf, Option.map_eq_some_iff] at h
      obtain ⟨ms, h1, h2⟩ := h
      subst h2
      rw [List.map_cons, ← intsOf_eq h1]
    | _ => simp [intsOf] at h
theorem RVs.ofInts : ∀ {vs : List V} {ns : List Int}, RVs K N vs (ns.map Val.int) → vs = ns.map V.int
  | _, [], .nil => rfl
  | _, _ :: _, .cons (.int _) r => by rw [List.map_cons, ← r.ofInts]
end
inductive SV (K : PySem.W.Frag) (N : Hp) : L2.St → Env → Prop
  | nil : SV K N [] []
  | un {s : Option V} {σ : L2.St} {env : Env} : SV K N σ env → SV K N (s :: σ) (.un :: env)
  | sh {v : V} {x : Val} {σ : L2.St} {env : Env} : RV K N v x → SV K N σ env → SV K N (some v :: σ) (.sh x :: env)
  | oL {v : V} {xs : List Val} {σ : L2.St} {env : Env} : RV K N v (.lst xs) → SV K N σ env → SV K N (some v :: σ) (.oL xs :: env)
  | oD {v : V} {xs : List (Key × Val)} {σ : L2.St} {env : Env} : RV K N v (.dct xs) → SV K N σ env → SV K N (some v :: σ) (.oD xs :: env)
  | oT {v : V} {t : Tr} {σ : L2.St} {env : Env} : RV K N v t.val → SV K N σ env → SV K N (some v :: σ) (.oT t :: env)
  | me {v : V} {t : Tr} {σ : L2.St} {env : Env} : RV K N v t.val → SV K N σ env → SV K N (some v :: σ) (.me t :: env)
section
variable {K : PySem.W.Frag} {N N' : Hp} {σ : L2.St} {env : Env}
theorem SV.mono (e : Sub N N') (h : SV K N σ env) : SV K N' σ env := by
  induction h with
  | nil => exact .nil
  | un _ ih => exact .un ih
  | sh r _ ih => exact .sh (r.mono e) ih
  | oL r _ ih => exact .oL (r.mono e) ih
  | oD r _ ih => exact .oD (r.mono e) ih
  | oT r _ ih => exact .oT (r.mono e) ih
  | me r _ ih => exact .me (r.mono e) ih
theorem SV.len (h : SV K N σ env) : σ.length = env.length := by
  induction h with
  | nil => rfl
  | un _ ih => exact congrArg (· + 1) ih
  | sh r _ ih => exact congrArg (· + 1) ih
  | oL r _ ih => exact congrArg (· + 1) ih
  | oD r _ ih => exact congrArg (· + 1) ih
  | oT r _ ih => exact congrArg (· + 1) ih
  | me r _ ih => exact congrArg (· + 1) ih
theorem SV.sh_at (h : SV K N σ env) {i : Nat} {x : Val} (e : env[i]? = some (.sh x)) : ∃ v, σ[i]? = some (some v) ∧ RV K N v x := by
  induction h generalizing i with
  | nil => simp at e
  | un _ ih =>
    cases i with
    | zero => simp at e
    | succ i => simpa using ih (by simpa using e)
  | sh r _ ih =>
    cases i with
    | zero => simp at e; subst e; exact ⟨_, rfl, r⟩
    | succ i => simpa using ih (by simpa using e)
  | oL r _ ih =>
    cases i with
    | zero => simp at e
    | succ i => simpa using ih (by simpa using e)
  | oD r _ ih =>
    cases i with
    | zero => simp at e
    | succ i => simpa using ih (by simpa using e)
  | oT r _ ih =>
    cases i with
    | zero => simp at e
    | succ i => simpa using ih (by simpa using e)
  | me r _ ih =>
    cases i with
    | zero => simp at e
    | succ i => simpa using ih (by simpa using e)
theorem SV.oL_at (h : SV K N σ env) {i : Nat} {x : List Val} (e : env[i]? = some (.oL x)) : ∃ v, σ[i]? = some (some v) ∧ RV K N v (.lst x) := by
  induction h generalizing i with
  | nil => simp at e
  | un _ ih =>
    cases i with
    | zero => simp at e
    | succ i => simpa using ih (by simpa using e)
  | oL r _ ih =>
    cases i with
    | zero => simp at e; subst e; exact ⟨_, rfl, r⟩
    | succ i => simpa using ih (by simpa using e)
  | sh r _ ih =>
    cases i with
    | zero => simp at e
    | succ i => simpa using ih (by simpa using e)
  | oD r _ ih =>
    cases i with
    | zero => simp at e
    | succ i => simpa using ih (by simpa using e)
  | oT r _ ih =>
    cases i with
    | zero => simp at e
    | succ i => simpa using ih (by simpa using e)
  | me r _ ih =>
    cases i with
    | zero => simp at e
    | succ i => simpa using ih (by simpa using e)
theorem SV.oD_at (h : SV K N σ env) {i : Nat} {x : List (Key × Val)} (e : env[i]? = some (.oD x)) : ∃ v, σ[i]? = some (some v) ∧ RV K N v (.dct x) := by
  induction h generalizing i with
  | nil => simp at e
  | un _ ih =>
    cases i with
    | zero => simp at e
    | succ i => simpa using ih (by simpa using e)
  | oD r _ ih =>
    cases i with
    | zero => simp at e; subst e; exact ⟨_, rfl, r⟩
    | succ i => simpa using ih (by simpa using e)
  | sh r _ ih =>
    cases i with
    | zero => simp at e
    | succ i => simpa using ih (by simpa using e)
  | oL r _ ih =>
    cases i with
    | zero => simp at e
    | succ i => simpa using ih (by simpa using e)
  | oT r _ ih =>
    cases i with
    | zero => simp at e
    | succ i => simpa using ih (by simpa using e)
  | me r _ ih =>
    cases i with
    | zero => simp at e
    | succ i => simpa using ih (by simpa using e)
theorem SV.oT_at (h : SV K N σ env) {i : Nat} {x : Tr} (e : env[i]? = some (.oT x)) : ∃ v, σ[i]? = some (some v) ∧ RV K N v x.val := by
  induction h generalizing i with
  | nil => simp at e
  | un _ ih =>
    cases i with
    | zero => simp at e
    | succ i => simpa using ih (by simpa using e)
  | oT r _ ih =>
    cases i with
    | zero => simp at e; subst e; exact ⟨_, rfl, r⟩
    | succ i => simpa using ih (by simpa using e)
  | sh r _ ih =>
    cases i with
    | zero => simp at e
    | succ i => simpa using ih (by simpa using e)
  | oL r _ ih =>
    cases i with
    | zero => simp at e
    | succ i => simpa using ih (by simpa using e)
  | oD r _ ih =>
    cases i with
    | zero => simp at e
    | succ i => simpa using ih (by simpa using e)
  | me r _ ih =>
    cases i with
    | zero => simp at e
    | succ i => simpa using ih (by simpa using e)
theorem SV.me_at (h : SV K N σ env) {i : Nat} {x : Tr} (e : env[i]? = some (.me x)) : ∃ v, σ[i]? = some (some v) ∧ RV K N v x.val := by
  induction h generalizing i with
  | nil => simp at e
  | un _ ih =>
    cases i with
    | zero => simp at e
    | succ i => simpa using ih (by simpa using e)
  | me r _ ih =>
    cases i with
    | zero => simp at e; subst e; exact ⟨_, rfl, r⟩
    | succ i => simpa using ih (by simpa using e)
  | sh r _ ih =>
    cases i with
    | zero => simp at e
    | succ i => simpa using ih (by simpa using e)
  | oL r _ ih =>
    cases i with
    | zero => simp at e
    | succ i => simpa using ih (by simpa using e)
  | oD r _ ih =>
    cases i with
    | zero => simp at e
    | succ i => simpa using ih (by simpa using e)
  | oT r _ ih =>
    cases i with
    | zero => simp at e
    | succ i => simpa using ih (by simpa using e)
theorem SV.set_sh (h : SV K N σ env) {i : Nat} {v : V} {x : Val} (r : RV K N v x) : SV K N (σ.set i (some v)) (env.set i (.sh x)) := by
  induction h generalizing i with
  | nil => exact .nil
  | un t ih =>
    cases i with
    | zero => exact .sh r t
    | succ i => exact .un ih
  | sh q t ih =>
    cases i with
    | zero => exact .sh r t
    | succ i => exact .sh q ih
  | oL q t ih =>
    cases i with
    | zero => exact .sh r t
    | succ i => exact .oL q ih
  | oD q t ih =>
    cases i with
    | zero => exact .sh r t
    | succ i => exact .oD q ih
  | oT q t ih =>
    cases i with
    | zero => exact .sh r t
    | succ i => exact .oT q ih
  | me q t ih =>
    cases i with
    | zero => exact .sh r t
    | succ i => exact .me q ih
theorem SV.set_un (h : SV K N σ env) {i : Nat} {s : Option V} : SV K N (σ.set i s) (env.set i .un) := by
  induction h generalizing i with
  | nil => exact .nil
  | un t ih =>
    cases i with
    | zero => exact .un t
    | succ i => exact .un ih
  | sh q t ih =>
    cases i with
    | zero => exact .un t
    | succ i => exact .sh q ih
  | oL q t ih =>
    cases i with
    | zero => exact .un t
    | succ i => exact .oL q ih
  | oD q t ih =>
    cases i with
    | zero => exact .un t
    | succ i => exact .oD q ih
  | oT q t ih =>
    cases i with
    | zero => exact .un t
    | succ i => exact .oT q ih
  | me q t ih =>
    cases i with
    | zero => exact .un t
    | succ i => exact .me q ih
theorem SV.wipe (h : SV K N σ env) : ∀ (vs : List Nat), SV K N (L2.wipe σ vs) (wipeE env vs)
  | [] => h
  | v :: vs => (SV.wipe h vs).set_un
end
end Vm
namespace Vm
open PySem L2
variable [TabsOf]
/-- how an exception lies: heap, class, its dict -/
abbrev XRel := Hp → Value → Option Addr → Exn → Prop
structure Cn where
  XR : XRel
  W : Option WX
def ExcP (C : Cn) (σ : L2.St) (N H : Hp) (e : Exn) : Prop := ∃ w, C.W = some w ∧ ∀ cls d N' H', Gr N H N' H' → C.XR H' cls d e → w cls d σ H'
def PostR {α : Type} (C : Cn) (σ : L2.St) (N H : Hp) (r : Res α) (P : α → Hp → Hp → Prop) : Prop := match r with
  | .ok x => ∀ N' H', Gr N H N' H' → P x N' H'
  | .exc e => ExcP C σ N H e
  | .bad => False
section
variable {α β : Type} {C : Cn} {σ : L2.St} {N H N1 H1 : Hp} {r : Res α} {P : α → Hp → Hp → Prop}
theorem ExcP.step {e : Exn} (g : Gr N H N1 H1) (h : ExcP C σ N H e) : ExcP C σ N1 H1 e := by
  obtain ⟨w, h1, h2⟩ := h
  exact ⟨w, h1, fun cls d N' H' g' => h2 cls d N' H' (g.trans g')⟩
theorem PostR.step (g : Gr N H N1 H1) (h : PostR C σ N H r P) : PostR C σ N1 H1 r P := by
  cases r with
  | ok x => exact fun N' H' g' => h N' H' (g.trans g')
  | exc e => exact ExcP.step g h
  | bad => exact h
theorem PostR.now {x : α} (e : Inn N H) (h : PostR C σ N H (.ok x) P) : P x N H := h N H (Gr.refl e)
theorem PostR.imp {P' : α → Hp → Hp → Prop} (h : PostR C σ N H r P) (k : ∀ x N' H', Gr N H N' H' → P x N' H' → P' x N' H') : PostR C σ N H r P' := by
  cases r with
  | ok x => exact fun N' H' g' => k x N' H' g' (h N' H' g')
  | exc e => exact h
  | bad => exact h
/-- the first part's end, where the second part's is wanted -/
theorem PostR.bind {f : α → Res β} {P : β → Hp → Hp → Prop} (h : PostR C σ N H (r.bind f) P) : PostR C σ N H r (fun x N' H' => PostR C σ N' H' (f x) P) := by
  cases r with
  | ok x => exact fun N' H' g' => PostR.step g' h
  | exc e => exact h
  | bad => exact h
end
/-- an expression -/
def EvE (K : PySem.W.Frag) (C : Cn) (te : TE) (m : EX) : Prop := ∀ N H σ env, Inn N H → SV K N σ env → ∀ Q : VK, PostR C σ N H (m env) (fun x N' H' => ∀ v, RV K N' v x → Q v H') → te σ H Q
def EvB (K : PySem.W.Frag) (C : Cn) (tt : TT) (m : EB) : Prop := ∀ N H σ env, Inn N H → SV K N σ env → ∀ Q : Bool → Hp → Prop, PostR C σ N H (m env) (fun x _ H' => Q x H') → tt σ H Q
def EvA (K : PySem.W.Frag) (C : Cn) (ta : TA) (m : EL) : Prop := ∀ N H σ env, Inn N H → SV K N σ env → ∀ Q : List V → Hp → Prop, PostR C σ N H (m env) (fun xs N' H' => ∀ vs, RVs K N' vs xs → Q vs H') → ta σ H Q
/-- a list that is made -/
def EvF (K : PySem.W.Frag) (C : Cn) (te : TE) (m : EX) : Prop := ∀ N H σ env, Inn N H → SV K N σ env → ∀ Q : VK, PostR C σ N H (m env) (fun x N' H' => ∃ xs, x = .lst xs ∧ ∀ p vs, H' p = none → RVs K N' vs xs → Q (.ref p) (upd H' p (.lst vs))) → te σ H Q
structure SE (X : Cx) (C : Cn) (e : Expr) (te : TE) (m : EX) : Prop where
  pe : PE X e te
  ev : EvE X.K C te m
structure SB (X : Cx) (C : Cn) (e : Expr) (te : TT) (m : EB) : Prop where
  pe : PT X e te
  ev : EvB X.K C te m
structure SW (X : Cx) (C : Cn) (e : Expr) (te : TT) (m : EB) : Prop where
  pe : PW X e te
  ev : EvB X.K C te m
structure SA (X : Cx) (C : Cn) (es : List Expr) (te : TA) (m : EL) : Prop where
  pe : PA X es te
  ev : EvA X.K C te m
structure SF (X : Cx) (C : Cn) (e : Expr) (te : TE) (m : EX) : Prop where
  pe : PE X e te
  ev : EvF X.K C te m
/-- what an operation on values does -/
def OpS (K : PySem.W.Frag) (r : R2) (f : Val → Val → Res Val) : Prop := ∀ N H, Inn N H → ∀ v w x y, RV K N v x → RV K N w y → ∀ Q : VK, (∃ z, f x y = .ok z ∧ ∀ N' H', Gr N H N' H' → ∀ u, RV K N' u z → Q u H') → r v w H Q
def UnS (K : PySem.W.Frag) (r : V → Hp → VK → Prop) (f : Val → Res Val) : Prop := ∀ N H, Inn N H → ∀ v x, RV K N v x → ∀ Q : VK, (∃ z, f x = .ok z ∧ ∀ N' H', Gr N H N' H' → ∀ u, RV K N' u z → Q u H') → r v H Q
def CaS (K : PySem.W.Frag) (r : List V → Hp → VK → Prop) (f : List Val → Res Val) : Prop := ∀ N H, Inn N H → ∀ vs xs, RVs K N vs xs → ∀ Q : VK, (∃ z, f xs = .ok z ∧ ∀ N' H', Gr N H N' H' → ∀ u, RV K N' u z → Q u H') → r vs H Q
/-- f raises nothing -/
def NX {α : Type} (r : Res α) : Prop := ∀ e, r ≠ .exc e
theorem PostR.val {α : Type} {C : Cn} {σ : L2.St} {N H : Hp} {r : Res α} {P : α → Hp → Hp → Prop} (h : PostR C σ N H r P) (n : NX r) : ∃ z, r = .ok z ∧ ∀ N' H', Gr N H N' H' → P z N' H' := by
  cases r with
  | ok x => exact ⟨x, rfl, h⟩
  | exc e => exact absurd rfl (n e)
  | bad => exact h.elim
section
variable {K : PySem.W.Frag} {C : Cn} {ta tb tc : TE} {ma mb mc : EX}
theorem ev_c {v : V} {x : Val} (r : ∀ N, RV K N v x) : EvE K C (tC v) (eC x) := fun N H σ env e s Q h => h N H (Gr.refl e) v (r N)
theorem ev_var {i : Nat} : EvE K C (tVar i) (eVar i) := fun N H σ env e s Q h => by
  unfold eVar at h
  split at h
  · rename_i x hx
    obtain ⟨v, h1, h2⟩ := s.sh_at hx
    exact ⟨v, h1, h N H (Gr.refl e) v h2⟩
  · rename_i x hx
    obtain ⟨v, h1, h2⟩ := s.oL_at hx
    exact ⟨v, h1, h N H (Gr.refl e) v h2⟩
  · rename_i x hx
    obtain ⟨v, h1, h2⟩ := s.oD_at hx
    exact ⟨v, h1, h N H (Gr.refl e) v h2⟩
  · rename_i x hx
    obtain ⟨v, h1, h2⟩ := s.oT_at hx
    exact ⟨v, h1, h N H (Gr.refl e) v h2⟩
  · rename_i x hx
    obtain ⟨v, h1, h2⟩ := s.me_at hx
    exact ⟨v, h1, h N H (Gr.refl e) v h2⟩
  · exact h.elim
theorem ev_op {r : R2} {f : Val → Val → Res Val} (hr : OpS K r f) (n : ∀ x y, NX (f x y)) (ha : EvE K C ta ma) (hb : EvE K C tb mb) : EvE K C (tOp r ta tb) (e2 f ma mb) := fun N H σ env e s Q h => by
  refine ha N H σ env e s _ (PostR.imp (PostR.bind h) fun x N1 H1 g1 h1 v rv => ?_)
  refine hb N1 H1 σ env g1.nh (s.mono g1.nn) _ (PostR.imp (PostR.bind h1) fun y N2 H2 g2 h2 w rw' => ?_)
  exact hr N2 H2 g2.nh v w x y (rv.mono g2.nn) rw' Q (by
    obtain ⟨z, hz, k⟩ := h2.val (n x y)
    exact ⟨z, hz, k⟩)
theorem ev_un {r : V → Hp → VK → Prop} {f : Val → Res Val} (hr : UnS K r f) (n : ∀ x, NX (f x)) (ha : EvE K C ta ma) : EvE K C (tUn r ta) (e1 f ma) := fun N H σ env e s Q h => by
  refine ha N H σ env e s _ (PostR.imp (PostR.bind h) fun x N1 H1 g1 h1 v rv => ?_)
  exact hr N1 H1 g1.nh v x rv Q (h1.val (n x))
theorem ea_nil : EvA K C tNil aNil := fun N H σ env e s Q h => h N H (Gr.refl e) [] .nil
theorem ea_cons {t : TA} {m : EL} (ha : EvE K C ta ma) (hr : EvA K C t m) : EvA K C (tCons ta t) (aCons ma m) := fun N H σ env e s Q h => by
  refine ha N H σ env e s _ (PostR.imp (PostR.bind h) fun x N1 H1 g1 h1 v rv => ?_)
  refine hr N1 H1 σ env g1.nh (s.mono g1.nn) _ (PostR.imp (PostR.bind h1) fun xs N2 H2 g2 h2 vs rvs => ?_)
  exact h2 N2 H2 (Gr.refl g2.nh) (v :: vs) (.cons (rv.mono g2.nn) rvs)
theorem ev_cb {r : List V → Hp → VK → Prop} {f : List Val → Res Val} {t : TA} {m : EL} (hr : CaS K r f) (n : ∀ x, NX (f x)) (ha : EvA K C t m) : EvE K C (tCB r t) (eArgs f m) := fun N H σ env e s Q h => by
  refine ha N H σ env e s _ (PostR.imp (PostR.bind h) fun xs N1 H1 g1 h1 vs rvs => ?_)
  exact hr N1 H1 g1.nh vs xs rvs Q (h1.val (n xs))
theorem eb_test (ha : EvE K C ta ma) : EvB K C (tTest ta) (bVal ma) := fun N H σ env e s Q h => by
  refine ha N H σ env e s _ (PostR.imp (PostR.bind h) fun x N1 H1 g1 h1 v rv => ?_)
  cases rv with
  | bl b => exact ⟨b, rfl, PostR.now g1.nh h1⟩
  | _ => exact h1.elim
theorem eb_and {t u : TT} {m n : EB} (ha : EvB K C t m) (hb : EvB K C u n) : EvB K C (tAnd t u) (bAnd m n) := fun N H σ env e s Q h => by
  refine ha N H σ env e s _ (PostR.imp (PostR.bind h) fun x N1 H1 g1 h1 => ?_)
  cases x with
  | true => exact hb N1 H1 σ env g1.nh (s.mono g1.nn) Q h1
  | false => exact PostR.now (P := fun x _ H' => Q x H') g1.nh h1
theorem eb_or {t u : TT} {m n : EB} (ha : EvB K C t m) (hb : EvB K C u n) : EvB K C (tOr t u) (bOr m n) := fun N H σ env e s Q h => by
  refine ha N H σ env e s _ (PostR.imp (PostR.bind h) fun x N1 H1 g1 h1 => ?_)
  cases x with
  | true => exact PostR.now (P := fun x _ H' => Q x H') g1.nh h1
  | false => exact hb N1 H1 σ env g1.nh (s.mono g1.nn) Q h1
theorem eb_not {t : TT} {m : EB} (ha : EvB K C t m) : EvB K C (tNot t) (bNot m) := fun N H σ env e s Q h => by
  refine ha N H σ env e s _ (PostR.imp (PostR.bind h) fun x N1 H1 g1 h1 => ?_)
  exact PostR.now (P := fun x _ H' => Q x H') g1.nh h1
theorem PostR.asBl {α : Type} {σ : L2.St} {N H : Hp} {x : Val} {f : Bool → Res α} {P : α → Hp → Hp → Prop} (h : PostR C σ N H ((asBl x).bind f) P) : ∃ k, x = .bl k ∧ PostR C σ N H (f k) P := by
  cases x with
  | bl k => exact ⟨k, rfl, h⟩
  | _ => exact h.elim
theorem ev_and (ha : EvE K C ta ma) (hb : EvE K C tb mb) : EvE K C (tAndV ta tb) (eAnd ma mb) := fun N H σ env e s Q h => by
  refine ha N H σ env e s _ (PostR.imp (PostR.bind h) fun x N1 H1 g1 h1 v rv => ?_)
  obtain ⟨k, rfl, h1⟩ := h1.asBl
  cases rv
  refine ⟨k, rfl, ?_⟩
  cases k with
  | true => exact hb N1 H1 σ env g1.nh (s.mono g1.nn) Q h1
  | false => exact h1 N1 H1 (Gr.refl g1.nh) _ (.bl false)
theorem ev_not (ha : EvE K C ta ma) : EvE K C (tNotV ta) (eNot ma) := fun N H σ env e s Q h => by
  refine ha N H σ env e s _ (PostR.imp (PostR.bind h) fun x N1 H1 g1 h1 v rv => ?_)
  obtain ⟨k, rfl, h1⟩ := h1.asBl
  cases rv
  exact ⟨k, rfl, h1 N1 H1 (Gr.refl g1.nh) _ (.bl _)⟩
theorem ev_if {t : TT} {m : EB} (ht : EvB K C t m) (ha : EvE K C ta ma) (hb : EvE K C tb mb) : EvE K C (tIf t ta tb) (eIf m ma mb) := fun N H σ env e s Q h => by
  refine ht N H σ env e s _ (PostR.imp (PostR.bind h) fun x N1 H1 g1 h1 => ?_)
  cases x with
  | true => exact ha N1 H1 σ env g1.nh (s.mono g1.nn) Q h1
  | false => exact hb N1 H1 σ env g1.nh (s.mono g1.nn) Q h1
theorem ev_chain {r r' : R2} {f g : Val → Val → Res Val} (hr : OpS K r f) (hr' : OpS K r' g) (n : ∀ x y, NX (f x y)) (n' : ∀ x y, NX (g x y)) (ha : EvE K C ta ma) (hb : EvE K C tb mb) (hc : EvE K C tc mc) : EvE K C (tChain r r' ta tb tc) (eChain f g ma mb mc) := fun N H σ env e s Q h => by
  refine ha N H σ env e s _ (PostR.imp (PostR.bind h) fun x N1 H1 g1 h1 v rv => ?_)
  refine hb N1 H1 σ env g1.nh (s.mono g1.nn) _ (PostR.imp (PostR.bind h1) fun y N2 H2 g2 h2 w rw' => ?_)
  obtain ⟨z, hz, k⟩ := (PostR.bind h2).val (n x y)
  refine hr N2 H2 g2.nh v w x y (rv.mono g2.nn) rw' _ ⟨z, hz, fun N3 H3 g3 u ru => ?_⟩
  obtain ⟨b, rfl, k3⟩ := (k N3 H3 g3).asBl
  cases ru
  refine ⟨b, rfl, ?_⟩
  cases b with
  | false => exact k3 N3 H3 (Gr.refl g3.nh) _ (.bl false)
  | true =>
    refine hc N3 H3 σ env g3.nh ((s.mono g1.nn).mono (fun a o q => g3.nn a o (g2.nn a o q))) _ (PostR.imp (PostR.bind k3) fun c N4 H4 g4 h4 w' rc => ?_)
    exact hr' N4 H4 g4.nh w w' y c ((rw'.mono g3.nn).mono g4.nn) rc Q (h4.val (n' y c))
end
theorem len_line {n : Nat} (h : n ≤ 16777216) : n ≤ sizeLine := by rw [sizeLine_eq]; exact h
section
variable {K : PySem.W.Frag} {C : Cn} {t : TA} {m : EL}
theorem ev_tup (ha : EvA K C t m) : EvE K C (tTup t) (eArgs vTup m) := fun N H σ env e s Q h => by
  refine ha N H σ env e s _ (PostR.imp (PostR.bind h) fun xs N1 H1 g1 h1 vs rvs => ?_)
  unfold vTup at h1
  split at h1
  · rename_i hl
    refine ⟨len_line (by rw [rvs.length]; exact hl), fun p hp => ?_⟩
    have g2 := Gr.new (o := .tup vs) g1.nh hp
    exact h1 _ _ g2 _ (.tup (SqP.of upd_same) (rvs.mono g2.nn))
  · exact h1.elim
theorem ef_lst (ha : EvA K C t m) : EvF K C (tLst t) (eArgs vLst m) := fun N H σ env e s Q h => by
  refine ha N H σ env e s _ (PostR.imp (PostR.bind h) fun xs N1 H1 g1 h1 vs rvs => ?_)
  unfold vLst at h1
  split at h1
  · rename_i hl
    obtain ⟨ys, e1, h2⟩ := h1 N1 H1 (Gr.refl g1.nh)
    cases e1
    exact ⟨len_line (by rw [rvs.length]; exact hl), fun p hp => h2 p vs hp rvs⟩
  · exact h1.elim
end
/-- a list that is made, as a value -/
theorem EvF.e {K : PySem.W.Frag} {C : Cn} {te : TE} {m : EX} (hl : ∀ env x, m env = .ok x → ∃ xs, x = .lst xs) (h : EvF K C te m) : EvE K C te m := fun N H σ env e s Q k => by
  refine h N H σ env e s Q ?_
  cases hm : m env with
  | bad => rw [hm] at k; exact k
  | exc x => rw [hm] at k; exact k
  | ok x =>
    rw [hm] at k
    obtain ⟨xs, rfl⟩ := hl env x hm
    refine fun N1 H1 g1 => ⟨xs, rfl, fun p vs hp rvs => ?_⟩
    have g2 := Gr.new (o := .lst vs) g1.nh hp
    exact k _ _ (g1.trans g2) _ (.lst (SqL.of upd_same) (rvs.mono g2.nn))
end Vm
namespace Vm
open PySem L2 PyProof.Rows
variable [TabsOf]
theorem line_eq : (sizeLine : Nat) = 16777216 := sizeLine_eq
theorem OpR.or {X : Cx} {f : Value → Value → Sem Value} {r r' : R2} (h : OpR X f r) (h' : OpR X f r') : OpR X f (fun x y H Q => r x y H Q ∨ r' x y H Q) := by
  intro pins s σ H x y v u Q I rx ry q
  rcases q with q | q
  · exact h pins s σ H x y v u Q I rx ry q
  · exact h' pins s σ H x y v u Q I rx ry q
def rCatS (K : PySem.W.Frag) : R2 := fun x y H Q => ∃ l b xs zs, x = .ref l ∧ y = .ref b ∧ SqL K H l xs ∧ SqL K H b zs ∧ xs.length + zs.length ≤ sizeLine ∧ ∀ p, H p = none → Q (.ref p) (upd H p (.lst (xs ++ zs)))
theorem op_catS {X : Cx} : OpR X (binaryOp .Add) (rCatS X.K) := by
  intro pins s σ H x y v u Q I rx ry h
  obtain ⟨l, b, xs, zs, rfl, rfl, hH, hB, hz, q⟩ := h
  cases rx
  cases ry
  obtain ⟨its, r, p1, z1⟩ := I.list hH
  obtain ⟨its2, r2, p2, z2⟩ := I.list hB
  obtain ⟨⟨cls, dd, data, sl⟩, ho, hc, n, hd⟩ := p1.isList
  obtain ⟨⟨cls2, dd2, data2, sl2⟩, ho2, hc2, n2, hd2⟩ := p2.isList
  simp only at hc hd hc2 hd2
  subst hc hd hc2 hd2
  have hl := r.length
  have hl2 := r2.length
  have ea : its.toArray ++ its2.toArray = (its ++ its2).toArray := by simp
  refine concat_meets ⟨_, ho, rfl⟩ ⟨_, ho2, rfl⟩ noFill_list_add seq_list_add PySem.F.slot_list_add PySem.F.entry_list_add (PySem.F.args_list_add_2 _ _) (list_addW l b its.toArray its2.toArray n n2 dd dd2 sl sl2 (by simp only [List.size_toArray]; omega)) ⟨ho, ho2, ?_⟩
  rw [ea]
  exact ⟨.ref _, _, I.lnew (t' := s.toks) (r.append r2) (by rw [List.length_append]; omega), rfl, q _ I.fresh⟩
def rAddV (K : PySem.W.Frag) : R2 := fun x y H Q => (rI0 fun i j => .int (i + j)) x y H Q ∨ (∃ i j, x = .str i ∧ y = .str j ∧ i.length + j.length ≤ sizeLine ∧ Q (.str (i ++ j)) H) ∨ rCatS K x y H Q ∨ rCatT K x y H Q
theorem op_addV {X : Cx} : OpR X (binaryOp .Add) (rAddV X.K) := OpR.or op_add (OpR.or op_add_str (OpR.or op_catS op_catT))
def rMulV : R2 := rI CMul fun i j => .int (i * j)
def rDivV : R2 := rI CDivW fun i j => .int (i / j)
def rModV : R2 := rI (fun _ j => 0 < j) fun i j => .int (i % j)
def rPowV : R2 := rI CPow fun i j => .int (i ^ j.toNat)
def rEqV (K : PySem.W.Frag) : R2 := fun x y H Q => rEq x y H Q ∨ rEqD K x y H Q
def rNeV (K : PySem.W.Frag) : R2 := fun x y H Q => rNe x y H Q ∨ rNeD K x y H Q
theorem op_eqV {X : Cx} (hu : X.A.units + 64 < cLine) : OpR X (compareOp .Eq) (rEqV X.K) := OpR.or op_eq (op_eqD hu)
theorem op_neV {X : Cx} (hu : X.A.units + 64 < cLine) : OpR X (compareOp .NotEq) (rNeV X.K) := OpR.or op_ne (op_neD hu)
def rNotInV (K : PySem.W.Frag) : R2 := fun x y H Q => rIn K true x y H Q ∨ (∃ (c : Nat) (z : Str), x = .str ⟨#[c]⟩ ∧ y = .str z ∧ Q (.bl (!decide (c ∈ z.cps.toList))) H)
theorem op_notInV {X : Cx} : OpR X (compareOp .NotIn) (rNotInV X.K) := OpR.or op_notIn_seq op_notIn_sign
theorem nx_ok {α : Type} {a : α} : NX (Res.ok a) := fun _ h => nomatch h
theorem nx_bad {α : Type} : NX (Res.bad : Res α) := fun _ h => nomatch h
theorem nx_ofOpt {α : Type} {o : Option α} : NX (Res.ofOpt o) := by cases o <;> exact fun _ h => nomatch h
theorem nx_bind {α β : Type} {r : Res α} {f : α → Res β} (h : NX r) (k : ∀ a, NX (f a)) : NX (r.bind f) := by
  cases r with
  | ok a => exact k a
  | exc e => exact absurd rfl (h e)
  | bad => exact fun _ h => nomatch h
theorem nx_ite {α : Type} {c : Prop} [Decidable c] {a b : Res α} (h1 : NX a) (h2 : NX b) : NX (if c then a else b) := by split <;> assumption
theorem nx_eqR (x y : Val) : NX (eqR x y) := by unfold eqR; exact nx_ite nx_ok (nx_ite nx_ok nx_bad)
section
variable (x y : Val)
theorem nx_add : NX (vAdd x y) := by unfold vAdd; split <;> first | exact nx_ok | exact nx_ite nx_ok nx_bad | exact nx_bad
theorem nx_sub : NX (vSub x y) := by unfold vSub; split <;> first | exact nx_ok | exact nx_bad
theorem nx_mul : NX (vMul x y) := by unfold vMul; split <;> first | exact nx_ite nx_ok nx_bad | exact nx_bad
theorem nx_div : NX (vDiv x y) := by unfold vDiv; split <;> first | exact nx_ite nx_ok nx_bad | exact nx_bad
theorem nx_mod : NX (vMod x y) := by unfold vMod; split <;> first | exact nx_ite nx_ok nx_bad | exact nx_bad
theorem nx_pow : NX (vPow x y) := by unfold vPow; split <;> first | exact nx_ite nx_ok nx_bad | exact nx_bad
theorem nx_neg : NX (vNeg x) := by unfold vNeg; split <;> first | exact nx_ok | exact nx_bad
theorem nx_lt : NX (vLt x y) := by unfold vLt; split <;> first | exact nx_ok | exact nx_bad
theorem nx_le : NX (vLe x y) := by unfold vLe; split <;> first | exact nx_ok | exact nx_bad
theorem nx_gt : NX (vGt x y) := by unfold vGt; split <;> first | exact nx_ok | exact nx_bad
theorem nx_ge : NX (vGe x y) := by unfold vGe; split <;> first | exact nx_ok | exact nx_bad
theorem nx_eq : NX (vEq x y) := by unfold vEq; exact nx_bind (nx_eqR x y) fun _ => nx_ok
theorem nx_ne : NX (vNe x y) := by unfold vNe; exact nx_bind (nx_eqR x y) fun _ => nx_ok
theorem nx_in : NX (vInS x y) := by
  unfold vInS
  split
  · exact nx_ite nx_ok nx_bad
  · exact nx_ite nx_ok nx_bad
  · split <;> first | exact nx_ok | exact nx_bad
  · exact nx_bad
theorem nx_not {r : Res Val} (h : NX r) : NX (rNot r) := by
  cases r with
  | ok a => unfold rNot; split <;> first | exact nx_ok | exact nx_bad | (rename_i e; cases e)
  | exc e => exact absurd rfl (h e)
  | bad => exact nx_bad
theorem nx_ix : NX (vIxS x y) := by unfold vIxS; split <;> first | exact nx_ofOpt | exact nx_ite nx_ofOpt nx_bad | exact nx_bad
end
section
variable {K : PySem.W.Frag}
theorem ops_add : OpS K (rAddV K) vAdd := by
  intro N H e v w x y rx ry Q ⟨z, hz, k⟩
  cases rx with
  | int i =>
    cases ry with
    | int j => cases hz; exact .inl ⟨i, j, rfl, rfl, k N H (Gr.refl e) _ (.int _)⟩
    | _ => cases hz
  | str i =>
    cases ry with
    | str j =>
      simp only [vAdd] at hz
      split at hz
      · cases hz; rename_i hl; exact .inr (.inl ⟨i, j, rfl, rfl, by rw [line_eq]; exact hl, k N H (Gr.refl e) _ (.str _)⟩)
      · cases hz
    | _ => cases hz
  | lst h r =>
    cases ry with
    | lst h2 r2 =>
      simp only [vAdd] at hz
      split at hz
      · cases hz
        rename_i hl
        refine .inr (.inr (.inl ⟨_, _, _, _, rfl, rfl, sq_mono e.sub h, sq_mono e.sub h2, by rw [line_eq, r.length, r2.length]; exact hl, fun p hp => ?_⟩))
        exact k _ _ (Gr.new e hp) _ (.lst (SqL.of upd_same) ((r.append r2).mono (Gr.new e hp).nn))
      · cases hz
    | _ => cases hz
  | tup h r =>
    cases ry with
    | tup h2 r2 =>
      simp only [vAdd] at hz
      split at hz
      · cases hz
        rename_i hl
        obtain ⟨l1, n1⟩ := hl
        refine .inr (.inr (.inr ⟨_, _, _, _, rfl, rfl, st_mono e.sub h, st_mono e.sub h2, fun z => ?_, by rw [line_eq, r.length, r2.length]; exact l1, fun z => ?_, fun z p hp => ?_⟩))
        · have := r.length
          rw [z] at this
          rw [List.isEmpty_eq_false_iff] at n1
          exact n1 (List.length_eq_zero_iff.mp this.symm)
        · have hy := r2.length
          rw [z] at hy
          have hy2 := List.length_eq_zero_iff.mp hy.symm
          refine k N H (Gr.refl e) _ ?_
          rw [hy2, List.append_nil]
          exact .tup h r
        · exact k _ _ (Gr.new e hp) _ (.tup (SqP.of upd_same) ((r.append r2).mono (Gr.new e hp).nn))
      · cases hz
    | _ => cases hz
  | _ => cases hz
theorem ops_I0 {g : Int → Int → Val} {gv : Int → Int → V} {f : Val → Val → Res Val} (hg : ∀ N i j, RV K N (gv i j) (g i j)) (hf : ∀ x y z, f x y = .ok z → ∃ i j, x = .int i ∧ y = .int j ∧ z = g i j) : OpS K (rI0 gv) f := by
  intro N H e v w x y rx ry Q ⟨z, hz, k⟩
  obtain ⟨i, j, rfl, rfl, rfl⟩ := hf x y z hz
  cases rx
  cases ry
  exact ⟨i, j, rfl, rfl, k N H (Gr.refl e) _ (hg N i j)⟩
theorem ops_I {c : Int → Int → Prop} {g : Int → Int → Val} {gv : Int → Int → V} {f : Val → Val → Res Val} (hg : ∀ N i j, RV K N (gv i j) (g i j)) (hf : ∀ x y z, f x y = .ok z → ∃ i j, x = .int i ∧ y = .int j ∧ c i j ∧ z = g i j) : OpS K (rI c gv) f := by
  intro N H e v w x y rx ry Q ⟨z, hz, k⟩
  obtain ⟨i, j, rfl, rfl, hc, rfl⟩ := hf x y z hz
  cases rx
  cases ry
  exact ⟨i, j, rfl, rfl, hc, k N H (Gr.refl e) _ (hg N i j)⟩
theorem ops_sub : OpS K (rI0 fun i j => .int (i - j)) vSub := ops_I0 (g := fun i j => .int (i - j)) (fun _ _ _ => .int _) fun x y z h => by
  cases x <;> cases y <;> first | (cases h; exact ⟨_, _, rfl, rfl, rfl⟩) | cases h
theorem ops_lt : OpS K (rI0 fun i j => .bl (decide (i < j))) vLt := ops_I0 (g := fun i j => .bl (decide (i < j))) (fun _ _ _ => .bl _) fun x y z h => by
  cases x <;> cases y <;> first | (cases h; exact ⟨_, _, rfl, rfl, rfl⟩) | cases h
theorem ops_le : OpS K (rI0 fun i j => .bl (decide (i ≤ j))) vLe := ops_I0 (g := fun i j => .bl (decide (i ≤ j))) (fun _ _ _ => .bl _) fun x y z h => by
  cases x <;> cases y <;> first | (cases h; exact ⟨_, _, rfl, rfl, rfl⟩) | cases h
theorem ops_gt : OpS K (rI0 fun i j => .bl (decide (j < i))) vGt := ops_I0 (g := fun i j => .bl (decide (j < i))) (fun _ _ _ => .bl _) fun x y z h => by
  cases x <;> cases y <;> first | (cases h; exact ⟨_, _, rfl, rfl, rfl⟩) | cases h
theorem ops_ge : OpS K (rI0 fun i j => .bl (decide (j ≤ i))) vGe := ops_I0 (g := fun i j => .bl (decide (j ≤ i))) (fun _ _ _ => .bl _) fun x y z h => by
  cases x <;> cases y <;> first | (cases h; exact ⟨_, _, rfl, rfl, rfl⟩) | cases h
theorem ite_ok {α : Type} {c : Prop} [Decidable c] {a z : α} (h : (if c then Res.ok a else .bad) = .ok z) : c ∧ z = a := by
  split at h
  · rename_i hc; cases h; exact ⟨hc, rfl⟩
  · cases h
theorem ops_mul : OpS K rMulV vMul := ops_I (g := fun i j => .int (i * j)) (fun _ _ _ => .int _) fun x y z h => by
  unfold vMul at h
  split at h
  · rename_i i j
    obtain ⟨h1, h2⟩ := ite_ok h
    refine ⟨i, j, rfl, rfl, ?_, h2⟩
    rcases big_iff.mp h1 with h1 | h1
    · exact .inl ⟨by have := h1.1; omega, by have := h1.2; omega⟩
    · exact .inr ⟨by have := h1.1; omega, by have := h1.2; omega⟩
  · cases h
theorem ops_div : OpS K rDivV vDiv := ops_I (g := fun i j => .int (i / j)) (fun _ _ _ => .int _) fun x y z h => by
  unfold vDiv at h
  split at h
  · rename_i i j
    obtain ⟨h1, h2⟩ := ite_ok h
    have h1 := big_iff.mp h1
    exact ⟨i, j, rfl, rfl, wide_div (i := i) (b := 100) h1.1 (by have := h1.1; have := h1.2; omega) (by decide) (by decide), h2⟩
  · cases h
theorem ops_mod : OpS K rModV vMod := ops_I (g := fun i j => .int (i % j)) (fun _ _ _ => .int _) fun x y z h => by
  unfold vMod at h
  split at h
  · rename_i i j
    obtain ⟨h1, h2⟩ := ite_ok h
    exact ⟨i, j, rfl, rfl, h1, h2⟩
  · cases h
theorem ops_pow : OpS K rPowV vPow := ops_I (g := fun i j => .int (i ^ j.toNat)) (fun _ _ _ => .int _) fun x y z h => by
  unfold vPow at h
  split at h
  · rename_i i j
    obtain ⟨h1, h2⟩ := ite_ok h
    have h1 := big_iff.mp h1
    exact ⟨i, j, rfl, rfl, ⟨h1.1, h1.2.1, by have := h1.2.2; omega⟩, h2⟩
  · cases h
theorem uns_neg : UnS K (rU fun i => .int (-i)) vNeg := by
  intro N H e v x rx Q ⟨z, hz, k⟩
  cases rx with
  | int i => cases hz; exact ⟨i, rfl, k N H (Gr.refl e) _ (.int _)⟩
  | _ => cases hz
theorem eqR_ok {N H : Hp} (e : Inn N H) {v w : V} {x y : Val} {b : Bool} (rx : RV K N v x) (ry : RV K N w y) (h : eqR x y = .ok b) : (L2.scal v w = true ∧ decide (v = w) = b) ∨ ∃ d d', Dp K H v d ∧ Dp K H w d' ∧ SeqAt.shaped d = true ∧ SeqAt.shaped d' = true ∧ PyData.eqv d d' = b := by
  unfold eqR at h
  split at h
  · rename_i hs
    cases h
    exact .inl (rx.scal ry hs)
  · obtain ⟨h1, h2⟩ := ite_ok h
    simp only [Bool.and_eq_true, decide_eq_true_eq] at h1
    obtain ⟨⟨a1, a2⟩, a3, a4⟩ := h1
    refine .inr ⟨toD x, toD y, RV.dp x (rx.mono e) a1, RV.dp y (ry.mono e) a3, shaped_toD a1 a2, shaped_toD a3 a4, ?_⟩
    rw [h2]
    exact eqv_toD x y a1 a3
theorem ops_eq : OpS K (rEqV K) vEq := by
  intro N H e v w x y rx ry Q ⟨z, hz, k⟩
  unfold vEq at hz
  cases hr : eqR x y with
  | bad => rw [hr] at hz; cases hz
  | exc _ => rw [hr] at hz; cases hz
  | ok b =>
    rw [hr] at hz
    cases hz
    rcases eqR_ok e rx ry hr with ⟨h1, h2⟩ | ⟨d, d', h1, h2, h3, h4, h5⟩
    · exact .inl ⟨h1, by rw [h2]; exact k N H (Gr.refl e) _ (.bl _)⟩
    · exact .inr ⟨d, d', h1, h2, h3, h4, by rw [h5]; exact k N H (Gr.refl e) _ (.bl _)⟩
theorem ops_ne : OpS K (rNeV K) vNe := by
  intro N H e v w x y rx ry Q ⟨z, hz, k⟩
  unfold vNe at hz
  cases hr : eqR x y with
  | bad => rw [hr] at hz; cases hz
  | exc _ => rw [hr] at hz; cases hz
  | ok b =>
    rw [hr] at hz
    cases hz
    rcases eqR_ok e rx ry hr with ⟨h1, h2⟩ | ⟨d, d', h1, h2, h3, h4, h5⟩
    · exact .inl ⟨h1, by rw [h2]; exact k N H (Gr.refl e) _ (.bl _)⟩
    · exact .inr ⟨d, d', h1, h2, h3, h4, by rw [h5]; exact k N H (Gr.refl e) _ (.bl _)⟩
theorem in_seq {N H : Hp} (e : Inn N H) {v w : V} {x y : Val} {xs : List Val} (rx : RV K N v x) (ry : RV K N w y) (hy : y = .lst xs ∨ y = .tup xs) (h : (x.isFlat && xs.all Val.isFlat) = true) :
    ∃ p vs, w = .ref p ∧ (SqL K H p vs ∨ SqT K H p vs) ∧ flatV v = true ∧ vs.all flatV = true ∧ inV v vs = inFlat x xs := by
  rw [Bool.and_eq_true] at h
  obtain ⟨h1, h2⟩ := rx.flat h.1
  rcases hy with rfl | rfl
  · cases ry with
    | lst hs r =>
      obtain ⟨h3, h4⟩ := r.flats h.2
      exact ⟨_, _, rfl, .inl (sq_mono e.sub hs), h2, h4, by rw [h1, h3, inV_of h.1 h.2]⟩
  · cases ry with
    | tup hs r =>
      obtain ⟨h3, h4⟩ := r.flats h.2
      exact ⟨_, _, rfl, .inr (st_mono e.sub hs), h2, h4, by rw [h1, h3, inV_of h.1 h.2]⟩
theorem in_cases {x y z : Val} (h : vInS x y = .ok z) : (∃ xs, (y = .lst xs ∨ y = .tup xs) ∧ (x.isFlat && xs.all Val.isFlat) = true ∧ z = .bl (inFlat x xs)) ∨ ∃ c s, x = .str ⟨#[c]⟩ ∧ y = .str s ∧ z = .bl (decide (c ∈ s.cps.toList)) := by
  unfold vInS at h
  split at h
  · obtain ⟨h1, h2⟩ := ite_ok h
    exact .inl ⟨_, .inl rfl, h1, h2⟩
  · obtain ⟨h1, h2⟩ := ite_ok h
    exact .inl ⟨_, .inr rfl, h1, h2⟩
  · rename_i a b
    split at h
    · rename_i c hc
      cases h
      refine .inr ⟨c, b, ?_, rfl, rfl⟩
      obtain ⟨⟨l⟩⟩ := a
      simp only at hc
      rw [hc]
    · cases h
  · cases h
theorem ops_notIn : OpS K (rNotInV K) vNotInS := by
  intro N H e v w x y rx ry Q ⟨z, hz, k⟩
  unfold vNotInS at hz
  cases hr : vInS x y with
  | bad => rw [hr] at hz; cases hz
  | exc _ => rw [hr] at hz; cases hz
  | ok b =>
    rw [hr] at hz
    rcases in_cases hr with ⟨xs, hy, hf, rfl⟩ | ⟨c, s, rfl, rfl, rfl⟩
    · cases hz
      obtain ⟨p, vs, h1, h2, h3, h4, h5⟩ := in_seq e rx ry hy hf
      refine .inl ⟨p, vs, h1, h2, h3, h4, ?_⟩
      rw [h5]
      exact k N H (Gr.refl e) _ (.bl _)
    · cases hz
      cases rx
      cases ry
      exact .inr ⟨c, s, rfl, rfl, k N H (Gr.refl e) _ (.bl _)⟩
end
end Vm
namespace Vm
open PySem L2
variable [TabsOf]
section
variable {K : PySem.W.Frag} {C : Cn}
theorem ops_ix : OpS K (rIx K) vIxS := by
  intro N H e v w x y rx ry Q ⟨z, hz, k⟩
  cases rx with
  | lst h r =>
    cases ry with
    | int i =>
      simp only [vIxS] at hz
      cases ha : Vm.atI _ i with
      | none => rw [ha] at hz; cases hz
      | some y =>
        rw [ha] at hz
        cases hz
        unfold Vm.atI at ha
        cases hj : ixNat _ i with
        | none => rw [hj] at ha; cases ha
        | some j =>
          rw [hj] at ha
          obtain ⟨u, h1, h2⟩ := r.get (show _[j]? = some z from ha)
          refine .inl ⟨_, _, i, u, rfl, rfl, sq_mono e.sub h, ?_, k N H (Gr.refl e) u h2⟩
          unfold L2.atI
          rw [r.length, show L2.ixN _ i = some j from hj]
          exact h1
    | _ => cases hz
  | tup h r =>
    cases ry with
    | int i =>
      simp only [vIxS] at hz
      cases ha : Vm.atI _ i with
      | none => rw [ha] at hz; cases hz
      | some y =>
        rw [ha] at hz
        cases hz
        unfold Vm.atI at ha
        cases hj : ixNat _ i with
        | none => rw [hj] at ha; cases ha
        | some j =>
          rw [hj] at ha
          obtain ⟨u, h1, h2⟩ := r.get (show _[j]? = some z from ha)
          refine .inr (.inl ⟨_, _, i, u, rfl, rfl, st_mono e.sub h, ?_, k N H (Gr.refl e) u h2⟩)
          unfold L2.atI
          rw [r.length, show L2.ixN _ i = some j from hj]
          exact h1
    | _ => cases hz
  | str s =>
    cases ry with
    | int i =>
      simp only [vIxS] at hz
      split at hz
      · rename_i hl
        cases ha : Vm.atI s.cps.toList i with
        | none => rw [ha] at hz; cases hz
        | some c =>
          rw [ha] at hz
          cases hz
          exact .inr (.inr ⟨s, i, c, rfl, rfl, len_line hl, ha, k N H (Gr.refl e) _ (.str _)⟩)
      · cases hz
    | _ => cases hz
  | _ => cases ry <;> cases hz
def rSlV (K : PySem.W.Frag) : V → Option Int → Option Int → Hp → VK → Prop := fun x lo hi H Q => rSlL K x lo hi H Q ∨ (rSlT K x lo hi H Q ∨ rSlS x lo hi H Q)
theorem sl_V {X : Cx} : SlR X (rSlV X.K) := sl_list.or (sl_tup.or sl_str)
def SlS (K : PySem.W.Frag) (r : V → Option Int → Option Int → Hp → VK → Prop) : Prop := ∀ N H, Inn N H → ∀ v x lo hi, RV K N v x → ∀ Q : VK, (∃ z, vCut x lo hi = .ok z ∧ ∀ N' H', Gr N H N' H' → ∀ u, RV K N' u z → Q u H') → r v lo hi H Q
theorem RVs.cut {N : Hp} {vs : List V} {xs : List Val} (r : RVs K N vs xs) (lo hi : Option Int) : RVs K N (cutV vs lo hi) (Vm.cut xs lo hi) := by
  unfold cutV Vm.cut
  rw [r.length]
  exact (r.drop _).take _
theorem sls : SlS K (rSlV K) := by
  intro N H e v x lo hi rx Q ⟨z, hz, k⟩
  cases rx with
  | lst h r =>
    cases hz
    refine .inl ⟨_, _, rfl, sq_mono e.sub h, fun p hp => ?_⟩
    exact k _ _ (Gr.new e hp) _ (.lst (SqL.of upd_same) ((r.cut lo hi).mono (Gr.new e hp).nn))
  | tup h r =>
    simp only [vCut] at hz
    split at hz
    · cases hz
    · rename_i hw
      cases hz
      refine .inr (.inl ⟨_, _, rfl, st_mono e.sub h, by rw [r.length]; exact hw, fun p hp => ?_⟩)
      exact k _ _ (Gr.new e hp) _ (.tup (SqP.of upd_same) ((r.cut lo hi).mono (Gr.new e hp).nn))
  | str s =>
    simp only [vCut] at hz
    split at hz
    · rename_i hl
      cases hz
      exact .inr (.inr ⟨s, rfl, len_line hl, k N H (Gr.refl e) _ (.str _)⟩)
    · cases hz
  | _ => cases hz
theorem nx_cut (x : Val) (l h : Option Int) : NX (vCut x l h) := by
  unfold vCut
  split
  · exact nx_ok
  · exact nx_ite nx_ok nx_bad
  · exact nx_ite nx_bad nx_ok
  · exact nx_bad
/-- a slice's part -/
def EvO (K : PySem.W.Frag) (C : Cn) (to : TO) (m : Option EX) : Prop := ∀ N H σ env, Inn N H → SV K N σ env → ∀ Q : Option Int → Hp → Prop, PostR C σ N H (partOf m env) (fun x _ H' => Q x H') → to σ H Q
theorem eo_none : EvO K C tNoPart none := fun N H σ env e s Q h => PostR.now (P := fun x _ H' => Q x H') e h
theorem eo_some {ta : TE} {ma : EX} (ha : EvE K C ta ma) : EvO K C (tPart ta) (some ma) := fun N H σ env e s Q h => by
  refine ha N H σ env e s _ (PostR.imp (PostR.bind h) fun x N1 H1 g1 h1 v rv => ?_)
  cases rv with
  | int i => exact ⟨i, rfl, PostR.now (P := fun x _ H' => Q x H') g1.nh h1⟩
  | _ => exact h1.elim
theorem ev_cut {ta : TE} {ma : EX} {tl th : TO} {lo hi : Option EX} (ha : EvE K C ta ma) (hl : EvO K C tl lo) (hh : EvO K C th hi) : EvE K C (tSl (rSlV K) ta tl th) (eCut ma lo hi) := fun N H σ env e s Q h => by
  refine ha N H σ env e s _ (PostR.imp (PostR.bind h) fun x N1 H1 g1 h1 v rv => ?_)
  have s1 := s.mono g1.nn
  refine hl N1 H1 σ env g1.nh s1 _ (PostR.imp (PostR.bind h1) fun l N2 H2 g2 h2 => ?_)
  refine hh N2 H2 σ env g2.nh (s1.mono g2.nn) _ (PostR.imp (PostR.bind h2) fun u N3 H3 g3 h3 => ?_)
  exact sls N3 H3 g3.nh v x l u ((rv.mono g2.nn).mono g3.nn) Q (h3.val (nx_cut x l u))
end
def setsE (env : Env) (l : List (Nat × V × Val)) : Env := l.foldl (fun e t => e.set t.1 (.sh t.2.2)) env
def setsS (σ : L2.St) (l : List (Nat × V × Val)) : L2.St := l.foldl (fun s t => s.set t.1 (some t.2.1)) σ
def EvP (K : PySem.W.Frag) (g : TG) (put : Put) (is : List Nat) : Prop := ∀ N H σ env v x env', Inn N H → RV K N v x → put x env = .ok env' → ∀ Q : L2.St → Hp → Prop, (∀ l : List (Nat × V × Val), (∀ t ∈ l, t.1 ∈ is ∧ RV K N t.2.1 t.2.2) → env' = setsE env l → Q (setsS σ l) H) → g v σ H Q
def EvPs (K : PySem.W.Frag) (g : TGs) (is : List Nat) : Prop := ∀ N H σ env vs xs env', Inn N H → RVs K N vs xs → putAll is xs env = .ok env' → ∀ Q : L2.St → Hp → Prop, (∀ l : List (Nat × V × Val), (∀ t ∈ l, t.1 ∈ is ∧ RV K N t.2.1 t.2.2) → env' = setsE env l → Q (setsS σ l) H) → g vs σ H Q
section
variable {K : PySem.W.Frag}
theorem pName_ok {i : Nat} {x : Val} {env env' : Env} (h : pName i x env = .ok env') : i < env.length ∧ env' = env.set i (.sh x) := ite_ok h
theorem ep_name {i : Nat} : EvP K (gName i) (pName i) [i] := fun N H σ env v x env' e r hp Q k => by
  obtain ⟨_, rfl⟩ := pName_ok hp
  exact k [(i, v, x)] (fun t ht => by rw [List.mem_singleton] at ht; subst ht; exact ⟨List.mem_singleton.mpr rfl, r⟩) rfl
theorem eps_nil : EvPs K gNil [] := fun N H σ env vs xs env' e r hp Q k => by
  cases r with
  | nil =>
    cases hp
    exact ⟨rfl, k [] (fun t ht => by cases ht) rfl⟩
  | cons _ _ => cases hp
theorem eps_cons {i : Nat} {is : List Nat} {g : TGs} (h : EvPs K g is) : EvPs K (gCons (gName i) g) (i :: is) := fun N H σ env vs xs env' e r hp Q k => by
  cases r with
  | nil => cases hp
  | @cons v vs x xs r1 r2 =>
    have hp' : ((pName i x env).bind fun e => putAll is xs e) = .ok env' := hp
    cases hn : pName i x env with
    | bad => rw [hn] at hp'; cases hp'
    | exc q => rw [hn] at hp'; cases hp'
    | ok e1 =>
      rw [hn] at hp'
      obtain ⟨_, rfl⟩ := pName_ok hn
      refine ⟨v, vs, rfl, ?_⟩
      refine h N H (σ.set i (some v)) _ vs xs env' e r2 hp' Q fun l hl he => ?_
      exact k ((i, v, x) :: l) (fun t ht => by
        rcases List.mem_cons.mp ht with rfl | ht
        · exact ⟨List.mem_cons_self, r1⟩
        · exact ⟨List.mem_cons_of_mem _ (hl t ht).1, (hl t ht).2⟩) he
theorem putAll_len : ∀ {is : List Nat} {xs : List Val} {env env' : Env}, putAll is xs env = .ok env' → xs.length = is.length
  | [], [], _, _, _ => rfl
  | [], _ :: _, _, _, h => by cases h
  | _ :: _, [], _, _, h => by cases h
  | i :: is, x :: xs, env, env', h => by
    have h' : ((pName i x env).bind fun e => putAll is xs e) = .ok env' := h
    cases hn : pName i x env with
    | bad => rw [hn] at h'; cases h'
    | exc q => rw [hn] at h'; cases h'
    | ok e1 =>
      rw [hn] at h'
      rw [List.length_cons, List.length_cons, putAll_len h']
theorem ep_tup {is : List Nat} {g : TGs} (h : EvPs K g is) : EvP K (gTup K is.length g) (pTup is) is := fun N H σ env v x env' e r hp Q k => by
  cases r with
  | tup hs rs =>
    have hp' : putAll is _ env = .ok env' := hp
    exact ⟨_, _, rfl, st_mono e.sub hs, by rw [rs.length, putAll_len hp'], h N H σ env _ _ env' e rs hp' Q k⟩
  | _ => cases hp
theorem SV.sets {N : Hp} : ∀ {l : List (Nat × V × Val)} {σ : L2.St} {env : Env}, SV K N σ env → (∀ t ∈ l, RV K N t.2.1 t.2.2) → SV K N (setsS σ l) (setsE env l)
  | [], _, _, s, _ => s
  | t :: l, σ, env, s, h => SV.sets (l := l) (s.set_sh (h t List.mem_cons_self)) fun t' ht => h t' (List.mem_cons_of_mem _ ht)
theorem wipe_set {σ : L2.St} {i : Nat} {s : Option V} : ∀ {vs : List Nat}, i ∈ vs → L2.wipe (σ.set i s) vs = L2.wipe σ vs
  | [], h => by cases h
  | v :: vs, h => by
    show (L2.wipe (σ.set i s) vs).set v none = (L2.wipe σ vs).set v none
    by_cases hv : i ∈ vs
    · rw [wipe_set hv]
    · have e : i = v := by
        rcases List.mem_cons.mp h with h | h
        · exact h
        · exact absurd h hv
      subst e
      have : ∀ (ws : List Nat), i ∉ ws → (L2.wipe (σ.set i s) ws) = (L2.wipe σ ws).set i s := by
        intro ws
        induction ws with
        | nil => intro _; rfl
        | cons w ws ih =>
          intro hw
          rw [List.mem_cons, not_or] at hw
          show (L2.wipe (σ.set i s) ws).set w none = ((L2.wipe σ ws).set w none).set i s
          rw [ih hw.2, List.set_comm]
          exact hw.1
      rw [this vs hv, List.set_set]
theorem wipe_wipe {σ : L2.St} : ∀ {vs ws : List Nat}, (∀ v ∈ ws, v ∈ vs) → L2.wipe (L2.wipe σ ws) vs = L2.wipe σ vs
  | vs, [], _ => rfl
  | vs, w :: ws, h => by
    show L2.wipe ((L2.wipe σ ws).set w none) vs = L2.wipe σ vs
    rw [wipe_set (h w List.mem_cons_self), wipe_wipe fun v hv => h v (List.mem_cons_of_mem _ hv)]
theorem wipe_sets {vs : List Nat} : ∀ {l : List (Nat × V × Val)} {σ : L2.St}, (∀ t ∈ l, t.1 ∈ vs) → L2.wipe (setsS σ l) vs = L2.wipe σ vs
  | [], _, _ => rfl
  | t :: l, σ, h => by
    show L2.wipe (setsS (σ.set t.1 (some t.2.1)) l) vs = _
    rw [wipe_sets (l := l) fun t' ht => h t' (List.mem_cons_of_mem _ ht), wipe_set (h t List.mem_cons_self)]
end
def WalkV (K : PySem.W.Frag) (N : Hp) (J : It) (xs : List Val) : Prop := ∃ G Y, Walk J xs.length G Y ∧ (∀ H, Inn N H → G H) ∧ ∀ i H v H', i < xs.length → Inn N H → Y i H v H' → ∃ N' x, Gr N H N' H' ∧ xs[i]? = some x ∧ RV K N' v x
def EvI (K : PySem.W.Frag) (C : Cn) (wi : TI) (m : EI) : Prop := ∀ N H σ env, Inn N H → SV K N σ env → ∀ R : It → Hp → Prop, PostR C σ N H (m env) (fun xs N' H' => ∀ J, WalkV K N' J xs → R J H') → wi σ H R
structure SI (X : Cx) (C : Cn) (tg e : Expr) (wi : TI) (m : EI) : Prop where
  pi : PI X tg e wi
  ev : EvI X.K C wi m
section
variable {K : PySem.W.Frag} {C : Cn}
theorem walkV_list {N : Hp} {a : Addr} {vs : List V} {xs : List Val} (h : SqL K N a vs) (r : RVs K N vs xs) : WalkV K N (Itl K a) xs := by
  refine ⟨_, _, by rw [← r.length]; exact walk_list, fun H e => sq_mono e.sub h, fun i H v H' hi e y => ?_⟩
  obtain ⟨rfl, hv⟩ := y
  obtain ⟨x, h1, h2⟩ := r.getV hv
  exact ⟨N, x, Gr.refl e, h1, h2⟩
theorem walkV_tup {N : Hp} {a : Addr} {vs : List V} {xs : List Val} (h : SqP K N a vs) (r : RVs K N vs xs) : WalkV K N (Itt K a) xs := by
  refine ⟨_, _, by rw [← r.length]; exact walk_tup, fun H e => st_mono e.sub h, fun i H v H' hi e y => ?_⟩
  obtain ⟨rfl, hv⟩ := y
  obtain ⟨x, h1, h2⟩ := r.getV hv
  exact ⟨N, x, Gr.refl e, h1, h2⟩
theorem walkV_range {N : Hp} {lo : Int} {n : Nat} : WalkV K N (Itr lo n) (rangeL lo n) := by
  have hl : (rangeL lo n).length = n := by unfold rangeL; rw [List.length_map, List.length_range]
  refine ⟨_, _, by rw [hl]; exact walk_range, fun _ _ => trivial, fun i H v H' hi e y => ?_⟩
  obtain ⟨rfl, rfl⟩ := y
  rw [hl] at hi
  refine ⟨N, .int (lo + (i : Int)), Gr.refl e, ?_, .int _⟩
  unfold rangeL
  rw [List.getElem?_map, List.getElem?_range hi]
  rfl
theorem walkV_str {N : Hp} {z : Str} : WalkV K N (Its z) (z.cps.toList.map fun c => .str ⟨#[c]⟩) := by
  have hl : (z.cps.toList.map fun c => Val.str ⟨#[c]⟩).length = z.cps.size := by rw [List.length_map, Array.length_toList]
  refine ⟨_, _, by rw [hl]; exact walk_str, fun _ _ => trivial, fun i H v H' hi e y => ?_⟩
  obtain ⟨rfl, c, hc, rfl⟩ := y
  refine ⟨N, .str ⟨#[c]⟩, Gr.refl e, ?_, .str _⟩
  rw [List.getElem?_map, Array.getElem?_toList, hc]
  rfl
/-- a list, a tuple or a text, walked -/
def iSeqT (K : PySem.W.Frag) (tl : TE) : TI := fun σ H R => tl σ H fun x H1 => (∃ a, x = .ref a ∧ (∃ xs, SqL K H1 a xs) ∧ R (Itl K a) H1) ∨ (∃ a, x = .ref a ∧ (∃ xs, SqT K H1 a xs) ∧ R (Itt K a) H1) ∨ ∃ z, x = .str z ∧ R (Its z) H1
theorem PIE.of_list {X : Cx} {tg l : Expr} {pins : List (Addr × Obj)} {σ : L2.St} {H1 : Hp} {s1 : Shared} {R : It → Hp → Prop} {a : Addr} {xs : List V} (I1 : Inv X pins σ H1 s1) (hq : SqL X.K H1 a xs) (q : R (Itl X.K a) H1) :
    wpAny (model X.prog X.w) X.A (pyIter (.ref a)) (PIE X pins σ tg R) X.xe s1 := by
  obtain ⟨its, rv, p, hz⟩ := I1.list hq
  refine wpAny_pyIter_list p.isList ?_
  refine ⟨s1.heap.objs.size, [s1.heap.objs.size], _, _, H1, rfl, I1.kept (t' := s1.toks) fun b o e => Heap.get?_push_of_some _ e, turn_list a _, ⟨_, Heap.get?_push_size _ rfl, rfl, rfl⟩, fun b hb => ?_, q⟩
  have e : b = s1.heap.objs.size := by simpa using hb
  subst e
  exact I1.fpOk (Nat.le_refl _) (I1.hok.fresh (Nat.le_refl _))
theorem PIE.of_tup {X : Cx} {tg l : Expr} {pins : List (Addr × Obj)} {σ : L2.St} {H1 : Hp} {s1 : Shared} {R : It → Hp → Prop} {a : Addr} {xs : List V} (I1 : Inv X pins σ H1 s1) (hq : SqT X.K H1 a xs) (q : R (Itt X.K a) H1) :
    wpAny (model X.prog X.w) X.A (pyIter (.ref a)) (PIE X pins σ tg R) X.xe s1 := by
  obtain ⟨its, rv, p, hz⟩ := I1.tuple hq
  refine wpAny_pyIter_tuple (show s1.heap.IsTuple a its.toArray from p) ?_
  refine ⟨s1.heap.objs.size, [s1.heap.objs.size], _, _, H1, rfl, I1.kept (t' := s1.toks) fun b o e => Heap.get?_push_of_some _ e, turn_tuple a _, ⟨_, Heap.get?_push_size _ rfl, rfl, rfl⟩, fun b hb => ?_, q⟩
  have e : b = s1.heap.objs.size := by simpa using hb
  subst e
  exact I1.fpOk (Nat.le_refl _) (I1.hok.fresh (Nat.le_refl _))
/-- two ways of what a value gives, one walk -/
theorem pi_seqT {X : Cx} {tg l : Expr} {tl : TE} (hl : PE X l tl) : PI X tg l (iSeqT X.K tl) := by
  refine ⟨fun pins s σ H R I h => ?_⟩
  refine thn (hl.run pins s σ H _ I h) fun v s1 ⟨x, H1, I1, r1, q1⟩ => ?_
  rcases q1 with ⟨a, e, ⟨xs, hq⟩, q⟩ | ⟨a, e, ⟨xs, hq⟩, q⟩ | ⟨z, e, q⟩
  · subst e
    cases r1
    exact PIE.of_list (l := l) I1 hq q
  · subst e
    cases r1
    exact PIE.of_tup (l := l) I1 hq q
  · subst e
    obtain ⟨t, rfl⟩ := r1
    cases ha : z.cps.all (· < 128)
    · exact wpAny_pyIter_wide ha (pi_one (tk := s1.toks) I1 _ (turn_str _ z t "str_iterator" (.inr rfl)) ⟨_, Heap.get?_push_size _ rfl, rfl, rfl⟩ q)
    · exact wpAny_pyIter_ascii ha (pi_one (tk := s1.toks) I1 _ (turn_str _ z t "str_ascii_iterator" (.inl rfl)) ⟨_, Heap.get?_push_size _ rfl, rfl, rfl⟩ q)
theorem ei_seq {ta : TE} {ma : EX} (ha : EvE K C ta ma) : EvI K C (iSeqT K ta) (iSeq ma) := fun N H σ env e s R h => by
  refine ha N H σ env e s _ (PostR.imp (PostR.bind h) fun x N1 H1 g1 h1 v rv => ?_)
  cases rv with
  | lst hs r => exact .inl ⟨_, rfl, ⟨_, sq_mono g1.nh hs⟩, h1 N1 H1 (Gr.refl g1.nh) _ (walkV_list hs r)⟩
  | tup hs r => exact .inr (.inl ⟨_, rfl, ⟨_, st_mono g1.nh hs⟩, h1 N1 H1 (Gr.refl g1.nh) _ (walkV_tup hs r)⟩)
  | str z => exact .inr (.inr ⟨z, rfl, h1 N1 H1 (Gr.refl g1.nh) _ walkV_str⟩)
  | _ => exact h1.elim
theorem smallI_ok {i : Int} (h : smallI i = true) : -(2 ^ 62) ≤ i ∧ i < 2 ^ 62 := by
  have h := big_iff.mp h
  exact ⟨by have := h.1; omega, by have := h.2; omega⟩
theorem PostR.ite {α : Type} {σ : L2.St} {N H : Hp} {c : Prop} [Decidable c] {a : α} {P : α → Hp → Hp → Prop} (h : PostR C σ N H (if c then .ok a else .bad) P) : c ∧ PostR C σ N H (.ok a) P := by
  split at h
  · rename_i hc; exact ⟨hc, h⟩
  · exact h.elim
theorem ei_range1 {ta : TE} {ma : EX} (ha : EvE K C ta ma) : EvI K C (iRng1 (tCons ta tNil)) (iRange1 ma) := fun N H σ env e s R h => by
  refine ha N H σ env e s _ (PostR.imp (PostR.bind h) fun x N1 H1 g1 h1 v rv => ?_)
  cases rv with
  | int j =>
    obtain ⟨hs, h2⟩ := PostR.ite h1
    obtain ⟨s1, s2⟩ := smallI_ok hs
    exact ⟨j, rfl, s1, s2, h2 N1 H1 (Gr.refl g1.nh) _ walkV_range⟩
  | _ => exact h1.elim
end
abbrev C0 (C : Cn) : Cn := { C with W := none }
theorem PostR.nx {α : Type} {C : Cn} {σ : L2.St} {N H : Hp} {r : Res α} {P : α → Hp → Hp → Prop} (h : PostR C σ N H r.nx P) : ∃ x, r = .ok x ∧ ∀ N' H', Gr N H N' H' → P x N' H' := by
  cases r with
  | ok x => exact ⟨x, rfl, h⟩
  | exc e => exact h.elim
  | bad => exact h.elim
section
variable {K : PySem.W.Frag} {C : Cn}
/-- one turn's way through the comprehension -/
theorem compL_cons {put : Put} {tt : EB} {el : EX} {env : Env} {x : Val} {xs r : List Val} (h : compL put tt el env (x :: xs) = .ok r) :
    ∃ e b, put x env = .ok e ∧ tt e = .ok b ∧ ((b = true ∧ ∃ y r', el e = .ok y ∧ compL put tt el env xs = .ok r' ∧ r = y :: r') ∨ (b = false ∧ compL put tt el env xs = .ok r)) := by
  unfold compL at h
  cases h1 : put x env with
  | bad => rw [h1] at h; cases h
  | exc q => rw [h1] at h; cases h
  | ok e =>
    rw [h1] at h
    replace h : ((tt e).nx.bind fun b => bif b then (el e).nx.bind fun y => (compL put tt el env xs).bind fun r => .ok (y :: r) else compL put tt el env xs) = .ok r := h
    cases h2 : tt e with
    | bad => rw [h2] at h; cases h
    | exc q => rw [h2] at h; cases h
    | ok b =>
      rw [h2] at h
      refine ⟨e, b, rfl, h2, ?_⟩
      cases b with
      | false => exact .inr ⟨rfl, h⟩
      | true =>
        replace h : ((el e).nx.bind fun y => (compL put tt el env xs).bind fun r => .ok (y :: r)) = .ok r := h
        cases h3 : el e with
        | bad => rw [h3] at h; cases h
        | exc q => rw [h3] at h; cases h
        | ok y =>
          rw [h3] at h
          replace h : ((compL put tt el env xs).bind fun r => .ok (y :: r)) = .ok r := h
          cases h4 : compL put tt el env xs with
          | bad => rw [h4] at h; cases h
          | exc q => rw [h4] at h; cases h
          | ok r' =>
            rw [h4] at h
            cases h
            exact .inl ⟨rfl, y, r', rfl, rfl, rfl⟩
theorem ef_comp_at {wi : TI} {it : EI} {g : TG} {put : Put} {is own : List Nat} {tt : TT} {te : TE} {mt : EB} {me : EX} {N H : Hp} {σ : L2.St} {env : Env} (hi : ∀ R : It → Hp → Prop, PostR C σ N H (it env) (fun xs N' H' => ∀ J, WalkV K N' J xs → R J H') → wi σ H R) (hp : EvP K g put is) (hsub : ∀ i ∈ is, i ∈ own)
    (ht : EvB K (C0 C) tt mt) (he : EvE K (C0 C) te me) (e : Inn N H) (s : SV K N σ env) (Q : VK) (h : PostR C σ N H (eComp it own put mt me env) (fun x N' H' => ∃ xs, x = .lst xs ∧ ∀ p vs, H' p = none → RVs K N' vs xs → Q (.ref p) (upd H' p (.lst vs)))) : tLc wi g tt te own σ H Q := by
  refine hi _ (PostR.imp (PostR.bind h) fun xs N1 H1 g1 h1 J hJ => ?_)
  intro D hD
  split at h1
  · rename_i hsz
    obtain ⟨G, Y, w, hG, hY⟩ := hJ
    cases hc : compL put mt me (wipeE env own) xs with
    | bad => rw [hc] at h1; exact h1.elim
    | exc q =>
      exfalso
      have : ∀ (xs : List Val), compL put mt me (wipeE env own) xs ≠ .exc q := by
        intro xs
        induction xs with
        | nil => intro h; cases h
        | cons x xs ih =>
          intro h
          unfold compL at h
          cases h1 : put x (wipeE env own) with
          | bad => rw [h1] at h; cases h
          | exc q => rw [h1] at h; cases h
          | ok e =>
            rw [h1] at h
            replace h : ((mt e).nx.bind fun b => bif b then (me e).nx.bind fun y => (compL put mt me (wipeE env own) xs).bind fun r => .ok (y :: r) else compL put mt me (wipeE env own) xs) = .exc q := h
            cases h2 : mt e with
            | bad => rw [h2] at h; cases h
            | exc q => rw [h2] at h; cases h
            | ok b =>
              rw [h2] at h
              cases b with
              | false => exact ih h
              | true =>
                replace h : ((me e).nx.bind fun y => (compL put mt me (wipeE env own) xs).bind fun r => .ok (y :: r)) = .exc q := h
                cases h3 : me e with
                | bad => rw [h3] at h; cases h
                | exc q => rw [h3] at h; cases h
                | ok y =>
                  rw [h3] at h
                  replace h : ((compL put mt me (wipeE env own) xs).bind fun r => .ok (y :: r)) = .exc q := h
                  cases h4 : compL put mt me (wipeE env own) xs with
                  | bad => rw [h4] at h; cases h
                  | exc q' => rw [h4] at h; cases h; exact ih h4
                  | ok r' => rw [h4] at h; cases h
      exact this xs hc
    | ok r =>
      rw [hc] at h1
      have fin : ∀ N' H', Gr N1 H1 N' H' → ∀ p vs, H' p = none → RVs K N' vs r → Q (.ref p) (upd H' p (.lst vs)) := fun N' H' g p vs => by
        obtain ⟨ys, e1, h2⟩ := (show ∀ N' H', Gr N1 H1 N' H' → ∃ ys, Val.lst r = .lst ys ∧ ∀ p vs, H' p = none → RVs K N' vs ys → Q (.ref p) (upd H' p (.lst vs)) from h1) N' H' g
        cases e1
        exact h2 p vs
      have s1 : SV K N1 σ env := s.mono g1.nn
      refine lc_it w (fun i H' => ∃ N' Hn acc ys rest, Gr N1 H1 N' Hn ∧ Hn D = none ∧ H' = upd Hn D (.lst acc) ∧ RVs K N' acc ys ∧ acc.length ≤ i ∧ compL put mt me (wipeE env own) (xs.drop i) = .ok rest ∧ ys ++ rest = r)
        ⟨N1, H1, [], [], r, Gr.refl g1.nh, hD, rfl, .nil, Nat.zero_le _, by rw [List.drop_zero]; exact hc, rfl⟩ ?_ ?_ ?_
      · rintro i H' hi ⟨N', Hn, acc, ys, rest, g2, hn, rfl, _⟩
        exact hG _ ((g2.up g1.nh).newH hn)
      · rintro i x Hi Hx hi ⟨N', Hn, acc, ys, rest, g2, hn, rfl, hacc, hlen, hrest, hr⟩ y
        -- the turn's item
        have sb : Inn N1 (upd Hn D (.lst acc)) := (g2.up g1.nh).newH hn
        have sb' : Inn N' (upd Hn D (.lst acc)) := g2.nh.newH hn
        obtain ⟨Nx, xv, gx, hxi, rx⟩ := hY i _ x Hx hi sb y
        rw [List.drop_eq_getElem_cons hi] at hrest
        have hxe : xs[i] = xv := by rw [List.getElem?_eq_getElem hi] at hxi; exact Option.some.inj hxi
        rw [hxe] at hrest
        obtain ⟨e1, b, hput, hb, hways⟩ := compL_cons hrest
        -- the frozen part at this turn: both what the turns before and what the item made
        let Nu : Hp := fun a => if Nx a = none then N' a else Nx a
        have u1 : Sub Nx Nu := fun a o q => by show (if Nx a = none then N' a else Nx a) = some o; rw [if_neg (by rw [q]; simp)]; exact q
        have sbx : Inn N' Hx := gx.up sb'
        have u2 : Inn Nu Hx := gx.nh.part fun a o q => by
          have q' : (if Nx a = none then N' a else Nx a) = some o := q
          by_cases hz : Nx a = none
          · rw [if_pos hz] at q'; exact ⟨sbx a o q', .inr (sbx.nt a o q')⟩
          · rw [if_neg hz] at q'; exact ⟨gx.nh a o q', .inl q'⟩
        have u3 : Sub N' Nu := fun a o q => by
          show (if Nx a = none then N' a else Nx a) = some o
          by_cases hz : Nx a = none
          · rw [if_pos hz]; exact q
          · rw [if_neg hz]
            cases hq : Nx a with
            | none => exact absurd hq hz
            | some o' =>
              have h1 := gx.nh a o' hq
              have h2 := sbx a o q
              rw [h1] at h2
              exact h2
        have u4 : ∀ a, Nu a ≠ none → N' a ≠ none ∨ Hn a = none := fun a q => by
          have q' : (if Nx a = none then N' a else Nx a) ≠ none := q
          by_cases hz : Nx a = none
          · rw [if_pos hz] at q'; exact .inl q'
          · rcases gx.nw a hz with h1 | h1
            · cases hq : N1 a with
              | none => exact absurd hq h1
              | some o => exact .inl (by rw [g2.nn a o hq]; simp)
            · right
              cases hq : Hn a with
              | none => rfl
              | some o =>
                have hne : a ≠ D := ne_of_none hq hn
                rw [upd_ne hne, hq] at h1
                cases h1
        have rxu : RV K Nu x xv := rx.mono u1
        refine hp Nu Hx (L2.wipe σ own) (wipeE env own) x xv e1 u2 rxu hput _ fun l hl he1 => ?_
        refine ⟨by rw [wipe_sets (fun t ht => hsub _ (hl t ht).1), wipe_wipe fun v hv => hv], ?_⟩
        have s2 : SV K Nu (setsS (L2.wipe σ own) l) e1 := by
          rw [he1]
          exact ((s1.mono (fun a o q => u3 a o (g2.nn a o q))).wipe own).sets fun t ht => (hl t ht).2
        -- the heap with D's list hidden again
        have hDx : Hx D = some (.lst acc) := gx.hh.to D _ upd_same rfl
        refine ht Nu Hx _ e1 u2 s2 _ ?_
        rw [hb]
        intro N3 H3 g3
        have hD3 : H3 D = some (.lst acc) := g3.hh.to D _ hDx rfl
        -- from a state behind: take D out of the frozen part and out of the heap
        have back : ∀ {N4 H4 : Hp}, Gr Nu Hx N4 H4 → ∃ H5, Gr N1 H1 N4 H5 ∧ H5 D = none ∧ Sub N' N4 ∧ ∀ o, upd H5 D o = upd H4 D o := fun {N4 H4} g4 => by
          have n4 : N4 D = none := by
            cases hq : N4 D with
            | none => rfl
            | some o =>
              rcases g4.nw D (by rw [hq]; simp) with h1 | h1
              · rcases u4 D h1 with h2 | h2
                · cases hq2 : N' D with
                  | none => exact absurd hq2 h2
                  | some o2 => have := g2.nh D o2 hq2; rw [hn] at this; cases this
                · -- Nu D known, yet Hn D = none: D is the list itself
                  cases hq2 : Nu D with
                  | none => exact absurd hq2 h1
                  | some o2 =>
                    exfalso
                    have q' : (if Nx D = none then N' D else Nx D) = some o2 := hq2
                    by_cases hz : Nx D = none
                    · rw [if_pos hz] at q'
                      have := g2.nh D o2 q'
                      rw [hn] at this
                      cases this
                    · rcases gx.nw D hz with h3 | h3
                      · cases hq3 : N1 D with
                        | none => exact absurd hq3 h3
                        | some o3 => have := g1.nh D o3 hq3; rw [hD] at this; cases this
                      · rw [upd_same] at h3; cases h3
              · rw [hDx] at h1; cases h1
          refine ⟨fun a => if a = D then none else H4 a, ⟨?_, fun a o q => g4.nn a o (u3 a o (g2.nn a o q)), g4.nh.hid n4 (g4.hh.to D _ hDx rfl), fun a q => ?_⟩, if_pos rfl, fun a o q => g4.nn a o (u3 a o q), fun o => ?_⟩
          · exact (((g2.hh.upd hD).trans gx.hh).trans g4.hh).hid hD
          · rcases g4.nw a q with h1 | h1
            · rcases u4 a h1 with h2 | h2
              · exact g2.nw a h2
              · exact .inr (g2.hh.free h2)
            · right
              exact ((g2.hh.upd hD).trans gx.hh).free h1
          · funext a
            unfold upd
            by_cases ha : a = D
            · rw [if_pos ha, if_pos ha]
            · rw [if_neg ha, if_neg ha]
              show (if a = D then none else H4 a) = H4 a
              rw [if_neg ha]
        rcases hways with ⟨rfl, yv, r', hel, hr', hrr⟩ | ⟨rfl, hr'⟩
        · show te _ H3 _
          refine he N3 H3 _ e1 g3.nh (s2.mono g3.nn) _ ?_
          rw [hel]
          intro N4 H4 g4 v rv
          have g34 := g3.trans g4
          refine ⟨acc, g4.hh.to D _ hD3 rfl, Nat.lt_of_lt_of_le (Nat.lt_of_le_of_lt hlen hi) (Nat.le_trans hsz (by rw [line_eq]; exact Nat.le_refl _)), ?_⟩
          obtain ⟨H5, g5, h5, sub5, hu⟩ := back g34
          refine ⟨N4, H5, acc ++ [v], ys ++ [yv], r', g5, h5, (hu _).symm, (hacc.mono sub5).append (.cons rv .nil), by simp only [List.length_append, List.length_singleton]; omega, hr', by rw [← hr, hrr, List.append_assoc]; rfl⟩
        · show ∃ N' Hn acc ys rest, _
          obtain ⟨H5, g5, h5, sub5, hu⟩ := back g3
          refine ⟨N3, H5, acc, ys, rest, g5, h5, ?_, hacc.mono sub5, by omega, hr', hr⟩
          rw [hu]
          funext a
          unfold upd
          by_cases ha : a = D
          · rw [if_pos ha, ha]; exact hD3
          · rw [if_neg ha]
      · rintro H' ⟨N', Hn, acc, ys, rest, g2, hn, rfl, hacc, hlen, hrest, hr⟩
        rw [List.drop_length] at hrest
        cases hrest
        rw [List.append_nil] at hr
        subst hr
        exact fin N' Hn g2 D acc hn hacc
  · exact h1.elim
theorem ef_comp {wi : TI} {it : EI} {g : TG} {put : Put} {is own : List Nat} {tt : TT} {te : TE} {mt : EB} {me : EX} (hi : EvI K C wi it) (hp : EvP K g put is) (hsub : ∀ i ∈ is, i ∈ own)
    (ht : EvB K (C0 C) tt mt) (he : EvE K (C0 C) te me) : EvF K C (tLc wi g tt te own) (eComp it own put mt me) := fun N H σ env e s Q h => ef_comp_at (fun R => hi N H σ env e s R) hp hsub ht he e s Q h
end
end Vm
namespace Vm
open PySem L2 PyProof.Rows
variable [TabsOf]
theorem vals3 {x y z : V} {us : List Value} (r : Vals [x, y, z] us) : ∃ u w' v', us = [u, w', v'] ∧ RelV x u ∧ RelV y w' ∧ RelV z v' := by
  cases r with
  | cons r1 r2 =>
    obtain ⟨u, w', e, h1, h2⟩ := vals2 r2
    subst e
    exact ⟨_, _, _, rfl, r1, h1, h2⟩
theorem call_max3 {X : Cx} (hc : X.calm = true) : CallR X (.builtin "max") (fun xs H Q => ∃ i j k, xs = [.int i, .int j, .int k] ∧ Q (.int (if k > (if j > i then j else i) then k else (if j > i then j else i))) H) := by
  intro pins s σ H xs us Q I r h
  obtain ⟨i, j, k, rfl, q⟩ := h
  obtain ⟨u, w', v', rfl, ⟨t, rfl⟩, ⟨t', rfl⟩, ⟨t2, rfl⟩⟩ := vals3 r
  refine max_three_ints (I.ok.hd hc) fun h' tk hk => ⟨.int (if k > (if j > i then j else i) then k else (if j > i then j else i)), H, I.kept hk, ?_, q⟩
  by_cases h1 : j > i
  · rw [if_pos h1, if_pos h1]
    by_cases h2 : k > j
    · rw [if_pos h2, if_pos h2]; exact ⟨_, rfl⟩
    · rw [if_neg h2, if_neg h2]; exact ⟨_, rfl⟩
  · rw [if_neg h1, if_neg h1]
    by_cases h2 : k > i
    · rw [if_pos h2, if_pos h2]; exact ⟨_, rfl⟩
    · rw [if_neg h2, if_neg h2]; exact ⟨_, rfl⟩
section
variable {K : PySem.W.Frag}
theorem vals1r {N : Hp} {vs : List V} {x : Val} (r : RVs K N vs [x]) : ∃ v, vs = [v] ∧ RV K N v x := by
  cases r with
  | cons h t => cases t; exact ⟨_, rfl, h⟩
theorem vals2r {N : Hp} {vs : List V} {x y : Val} (r : RVs K N vs [x, y]) : ∃ v w, vs = [v, w] ∧ RV K N v x ∧ RV K N w y := by
  cases r with
  | cons h t => obtain ⟨w, rfl, h2⟩ := vals1r t; exact ⟨_, _, rfl, h, h2⟩
theorem vals3r {N : Hp} {vs : List V} {x y z : Val} (r : RVs K N vs [x, y, z]) : ∃ v w u, vs = [v, w, u] ∧ RV K N v x ∧ RV K N w y ∧ RV K N u z := by
  cases r with
  | cons h t => obtain ⟨w, u, rfl, h2, h3⟩ := vals2r t; exact ⟨_, _, _, rfl, h, h2, h3⟩
def rLenC (K : PySem.W.Frag) : List V → Hp → VK → Prop := fun xs H Q => (∃ p ys, xs = [.ref p] ∧ (SqL K H p ys ∨ SqT K H p ys) ∧ Q (.int ys.length) H) ∨ ∃ z, xs = [.str z] ∧ z.length ≤ sizeLine ∧ Q (.int z.length) H
theorem call_lenC {X : Cx} : CallR X (.builtin "len") (rLenC X.K) := CallR.or call_len_seq call_len_str
theorem ca_len : CaS K (rLenC K) vLen := by
  intro N H e vs xs rs Q ⟨z, hz, k⟩
  unfold vLen at hz
  split at hz
  · obtain ⟨v, rfl, rv⟩ := vals1r rs
    cases hz
    cases rv with
    | lst h r => exact .inl ⟨_, _, rfl, .inl (sq_mono e.sub h), k N H (Gr.refl e) _ (by rw [r.length]; exact .int _)⟩
  · obtain ⟨v, rfl, rv⟩ := vals1r rs
    cases hz
    cases rv with
    | tup h r => exact .inl ⟨_, _, rfl, .inr (st_mono e.sub h), k N H (Gr.refl e) _ (by rw [r.length]; exact .int _)⟩
  · obtain ⟨v, rfl, rv⟩ := vals1r rs
    obtain ⟨h1, rfl⟩ := ite_ok hz
    cases rv
    exact .inr ⟨_, rfl, len_line h1, k N H (Gr.refl e) _ (.int _)⟩
  · cases hz
theorem nx_len (xs : List Val) : NX (vLen xs) := by
  unfold vLen
  split <;> first | exact nx_ok | exact nx_ite nx_ok nx_bad | exact nx_bad
theorem opt_ok {α : Type} {β : Type} {o : Option α} {f : α → Res β} {z : β} (h : (Res.ofOpt o).bind f = .ok z) : ∃ a, o = some a ∧ f a = .ok z := by
  cases o with
  | none => cases h
  | some a => exact ⟨a, rfl, h⟩
theorem digit_text {z : Str} {n : Int} (h : digitOf z = some n) : PySem.intText? z = some n ∧ z.length ≤ 640 := by
  obtain ⟨⟨l⟩⟩ := z
  unfold digitOf at h
  match l, h with
  | [c], h =>
    have h : (if 48 ≤ c ∧ c ≤ 57 then some ((c : Int) - 48) else none) = some n := h
    split at h
    · rename_i hc
      cases h
      refine ⟨?_, by show 1 ≤ 640; omega⟩
      have : c = 48 ∨ c = 49 ∨ c = 50 ∨ c = 51 ∨ c = 52 ∨ c = 53 ∨ c = 54 ∨ c = 55 ∨ c = 56 ∨ c = 57 := by omega
      rcases this with rfl | rfl | rfl | rfl | rfl | rfl | rfl | rfl | rfl | rfl <;> decide +kernel
    · cases h
  | [], h => cases h
  | _ :: _ :: _, h => cases h
def rIntC : List V → Hp → VK → Prop := fun xs H Q => ((∃ i, xs = [.int i] ∧ Q (.int i) H) ∨ ∃ k, xs = [.bl k] ∧ Q (.int (if k then 1 else 0)) H) ∨ ∃ a n, xs = [.str a] ∧ PySem.intText? a = some n ∧ a.length ≤ 640 ∧ Q (.int n) H
theorem call_intC {X : Cx} : CallR X (.type "int") rIntC := CallR.or call_int1 call_int_str
theorem ca_int : CaS K rIntC vInt := by
  intro N H e vs xs rs Q ⟨z, hz, k⟩
  unfold vInt at hz
  split at hz
  · obtain ⟨v, rfl, rv⟩ := vals1r rs
    obtain ⟨n, hn, hz⟩ := opt_ok hz
    cases hz
    cases rv
    obtain ⟨h1, h2⟩ := digit_text hn
    exact .inr ⟨_, _, rfl, h1, h2, k N H (Gr.refl e) _ (.int _)⟩
  · obtain ⟨v, rfl, rv⟩ := vals1r rs
    cases hz
    cases rv
    exact .inl (.inl ⟨_, rfl, k N H (Gr.refl e) _ (.int _)⟩)
  · obtain ⟨v, rfl, rv⟩ := vals1r rs
    cases hz
    cases rv
    exact .inl (.inr ⟨_, rfl, k N H (Gr.refl e) _ (.int _)⟩)
  · cases hz
theorem nx_int (xs : List Val) : NX (vInt xs) := by unfold vInt; split <;> first | exact nx_ok | exact nx_bad | exact nx_bind nx_ofOpt (fun _ => nx_ok)
theorem maxL_spec : ∀ (ns : List Int) (m : Int), (maxL m ns = m ∨ maxL m ns ∈ ns) ∧ m ≤ maxL m ns ∧ ∀ y ∈ ns, y ≤ maxL m ns
  | [], m => ⟨.inl rfl, Int.le_refl _, fun y h => by cases h⟩
  | x :: ns, m => by
    obtain ⟨h1, h2, h3⟩ := maxL_spec ns (if x > m then x else m)
    show (maxL (if x > m then x else m) ns = m ∨ maxL (if x > m then x else m) ns ∈ x :: ns) ∧ m ≤ maxL (if x > m then x else m) ns ∧ ∀ y ∈ x :: ns, y ≤ maxL (if x > m then x else m) ns
    by_cases hx : x > m
    · rw [if_pos hx] at h1 h2 h3 ⊢
      refine ⟨.inr ?_, by omega, fun y hy => ?_⟩
      · rcases h1 with h | h
        · rw [h]; exact List.mem_cons_self
        · exact List.mem_cons_of_mem _ h
      · rcases List.mem_cons.mp hy with rfl | hy
        · exact h2
        · exact h3 y hy
    · rw [if_neg hx] at h1 h2 h3 ⊢
      refine ⟨?_, h2, fun y hy => ?_⟩
      · rcases h1 with h | h
        · exact .inl h
        · exact .inr (List.mem_cons_of_mem _ h)
      · rcases List.mem_cons.mp hy with rfl | hy
        · omega
        · exact h3 y hy
theorem minL_spec : ∀ (ns : List Int) (m : Int), (minL m ns = m ∨ minL m ns ∈ ns) ∧ minL m ns ≤ m ∧ ∀ y ∈ ns, minL m ns ≤ y
  | [], m => ⟨.inl rfl, Int.le_refl _, fun y h => by cases h⟩
  | x :: ns, m => by
    obtain ⟨h1, h2, h3⟩ := minL_spec ns (if x < m then x else m)
    show (minL (if x < m then x else m) ns = m ∨ minL (if x < m then x else m) ns ∈ x :: ns) ∧ minL (if x < m then x else m) ns ≤ m ∧ ∀ y ∈ x :: ns, minL (if x < m then x else m) ns ≤ y
    by_cases hx : x < m
    · rw [if_pos hx] at h1 h2 h3 ⊢
      refine ⟨.inr ?_, by omega, fun y hy => ?_⟩
      · rcases h1 with h | h
        · rw [h]; exact List.mem_cons_self
        · exact List.mem_cons_of_mem _ h
      · rcases List.mem_cons.mp hy with rfl | hy
        · exact h2
        · exact h3 y hy
    · rw [if_neg hx] at h1 h2 h3 ⊢
      refine ⟨?_, h2, fun y hy => ?_⟩
      · rcases h1 with h | h
        · exact .inl h
        · exact .inr (List.mem_cons_of_mem _ h)
      · rcases List.mem_cons.mp hy with rfl | hy
        · omega
        · exact h3 y hy
theorem maxL_uniq {n m : Int} {ns : List Int} (h1 : m ∈ n :: ns) (h2 : ∀ y, y ∈ n :: ns → y ≤ m) : m = maxL n ns := by
  obtain ⟨a, b, c⟩ := maxL_spec ns n
  have h3 : maxL n ns ≤ m := by
    rcases a with a | a
    · rw [a]; exact h2 n List.mem_cons_self
    · exact h2 _ (List.mem_cons_of_mem _ a)
  have h4 : m ≤ maxL n ns := by
    rcases List.mem_cons.mp h1 with rfl | h
    · exact b
    · exact c m h
  omega
theorem minL_uniq {n m : Int} {ns : List Int} (h1 : m ∈ n :: ns) (h2 : ∀ y, y ∈ n :: ns → m ≤ y) : m = minL n ns := by
  obtain ⟨a, b, c⟩ := minL_spec ns n
  have h3 : m ≤ minL n ns := by
    rcases a with a | a
    · rw [a]; exact h2 n List.mem_cons_self
    · exact h2 _ (List.mem_cons_of_mem _ a)
  have h4 : minL n ns ≤ m := by
    rcases List.mem_cons.mp h1 with rfl | h
    · exact b
    · exact c m h
  omega
def rMaxC (K : PySem.W.Frag) : List V → Hp → VK → Prop := fun xs H Q => (∃ i j, xs = [.int i, .int j] ∧ Q (.int (if j > i then j else i)) H) ∨ (∃ i j k, xs = [.int i, .int j, .int k] ∧ Q (.int (if k > (if j > i then j else i) then k else (if j > i then j else i))) H) ∨ rMax K xs H Q
theorem call_maxC {X : Cx} (hc : X.calm = true) : CallR X (.builtin "max") (rMaxC X.K) := CallR.or (call_max2 hc) (CallR.or (call_max3 hc) (cr_max hc))
def rMinC (K : PySem.W.Frag) : List V → Hp → VK → Prop := fun xs H Q => (∃ i j, xs = [.int i, .int j] ∧ Q (.int (if j < i then j else i)) H) ∨ rMin K xs H Q
theorem call_minC {X : Cx} (hc : X.calm = true) : CallR X (.builtin "min") (rMinC X.K) := CallR.or (call_min2 hc) (cr_min hc)
theorem ca_max : CaS K (rMaxC K) vMax := by
  intro N H e vs xs rs Q ⟨z, hz, k⟩
  unfold vMax at hz
  split at hz
  · obtain ⟨v, w, rfl, r1, r2⟩ := vals2r rs
    cases hz
    cases r1
    cases r2
    exact .inl ⟨_, _, rfl, k N H (Gr.refl e) _ (.int _)⟩
  · obtain ⟨v, w, u, rfl, r1, r2, r3⟩ := vals3r rs
    cases hz
    cases r1
    cases r2
    cases r3
    exact .inr (.inl ⟨_, _, _, rfl, k N H (Gr.refl e) _ (.int _)⟩)
  · obtain ⟨v, rfl, rv⟩ := vals1r rs
    obtain ⟨ns, h1, h2⟩ := opt_ok hz
    have h3 := intsOf_eq h1
    subst h3
    split at h2
    · cases h2
    · rename_i n ns
      cases h2
      cases rv with
      | lst h r =>
        have h4 := r.ofInts
        subst h4
        exact .inr (.inr ⟨_, n :: ns, rfl, sq_mono e.sub h, Nat.succ_pos _, fun m hm hb => k N H (Gr.refl e) _ (by rw [maxL_uniq hm hb]; exact .int _)⟩)
  · cases hz
theorem ca_min : CaS K (rMinC K) vMin := by
  intro N H e vs xs rs Q ⟨z, hz, k⟩
  unfold vMin at hz
  split at hz
  · obtain ⟨v, w, rfl, r1, r2⟩ := vals2r rs
    cases hz
    cases r1
    cases r2
    exact .inl ⟨_, _, rfl, k N H (Gr.refl e) _ (.int _)⟩
  · obtain ⟨v, rfl, rv⟩ := vals1r rs
    obtain ⟨ns, h1, h2⟩ := opt_ok hz
    have h3 := intsOf_eq h1
    subst h3
    split at h2
    · cases h2
    · rename_i n ns
      cases h2
      cases rv with
      | lst h r =>
        have h4 := r.ofInts
        subst h4
        exact .inr ⟨_, n :: ns, rfl, sq_mono e.sub h, Nat.succ_pos _, fun m hm hb => k N H (Gr.refl e) _ (by rw [minL_uniq hm hb]; exact .int _)⟩
  · cases hz
theorem nx_max (xs : List Val) : NX (vMax xs) := by
  unfold vMax
  split
  · exact nx_ok
  · exact nx_ok
  · exact nx_bind nx_ofOpt fun ns => by split <;> first | exact nx_bad | exact nx_ok
  · exact nx_bad
theorem nx_min (xs : List Val) : NX (vMin xs) := by
  unfold vMin
  split
  · exact nx_ok
  · exact nx_bind nx_ofOpt fun ns => by split <;> first | exact nx_bad | exact nx_ok
  · exact nx_bad
end
def Ty.nm : Ty → String
  | .int => "int"
  | .bool => "bool"
  | .str => "str"
  | .list => "list"
  | .tuple => "tuple"
  | .dict => "dict"
def tyNm (x : Val) : String := match x.ty with
  | none => "NoneType"
  | some t => t.nm
theorem kit_tab : ∀ (t : Option Ty) (u : Ty), kitB (match t with | none => "NoneType" | some t => t.nm) u.nm = some (Ty.sub t u) := by
  intro t u
  rcases t with _ | t
  · cases u <;> decide +kernel
  · cases t <;> cases u <;> decide +kernel
section
variable {K : PySem.W.Frag} {C : Cn}
theorem RV.tyx {N H : Hp} (e : Inn N H) {v : V} {x : Val} (r : RV K N v x) (no : x.isOb = false) : TyX K H v (.type (tyNm x)) := by
  cases r with
  | non => exact .base .non
  | bl b => exact .base (.bl b)
  | int i => exact .base (.int i)
  | str x => exact .base (.str x)
  | tup h _ =>
    rcases st_mono e.sub h with (h | ⟨o, h⟩) | ⟨o, its, n, hk, hc, _⟩
    · exact .base (.tup h)
    · exact .fTuple h
    · exact .kTuple hk hc
  | lst h _ =>
    rcases sq_mono e.sub h with (h | ⟨o, h⟩) | ⟨o, its, n, hk, hc, _⟩
    · exact .base (.lst h)
    · exact .base (.frz h)
    · exact .kList hk hc
  | dct h _ =>
    rcases h with h | ⟨o, h⟩
    · exact .base (.dK (e _ _ h))
    · exact .fDict (e _ _ h)
  | dck h _ => exact .fDict (e _ _ h)
  | dcT h _ => exact .base (.dT (e _ _ h))
  | ob _ _ => cases no
theorem ev_isi {ta : TE} {ma : EX} {u : Ty} (ha : EvE K C ta ma) : EvE K C (tCB (rIsi K) (tCons ta (tCons (tC (.ty u.nm)) tNil))) (e1 (vIsi u) ma) := fun N H σ env e s Q h => by
  refine ha N H σ env e s _ (PostR.imp (PostR.bind h) fun x N1 H1 g1 h1 v rv => ?_)
  unfold vIsi at h1
  cases no : x.isOb with
  | true => rw [no, if_pos rfl] at h1; exact h1.elim
  | false =>
    rw [no, if_neg (by simp)] at h1
    exact ⟨v, .ty u.nm, .type (tyNm x), .type u.nm, Ty.sub x.ty u, rfl, .ty _, rv.tyx g1.nh no, kit_ty (by
      have := kit_tab x.ty u
      exact this), h1 N1 H1 (Gr.refl g1.nh) _ (.bl _)⟩
end
/-- what a def promises: its function on values -/
def spF (K : PySem.W.Frag) (XR : XRel) (k : Nat) (f : Fn) : Sp := fun vs H Q E => ∃ N xs, Inn N H ∧ RVs K N vs xs ∧ xs.length = k ∧ (match f xs with
  | .ret y => ∀ N' H', Gr N H N' H' → ∀ v, RV K N' v y → Q v H'
  | .exc q => ∀ cls d N' H', Gr N H N' H' → XR H' cls d q → E cls d H'
  | .bad => False)
/-- a def of the module -/
structure Cal (P : Program) (w : World) (K : PySem.W.Frag) (mg : Str → Option Value) (base : Heap) (XR : XRel) (x : Str) (j k : Nat) (f : Fn) : Prop where
  ex : ∃ a fd ps, FnOk P w K mg base (L2.CX P w) j a fd ps (spF K XR k f) ∧ mg x = some (.ref a) ∧ PySem.W.keepIn K (.ref a) = true ∧ Binds K fd ps []
  ln : ∀ xs, f xs ≠ .bad → xs.length = k
/-- what is wanted of an exception, at the slots -/
def CE (C : Cn) (σ : L2.St) : XK := fun cls d H => match C.W with
  | some w => w cls d σ H
  | none => False
def Lets (X : Cx) (C : Cn) : Prop := ∀ σ, PassesAt (L2.CX X.prog X.w) X σ (CE C σ)
theorem Lets.of {X : Cx} {XR : XRel} {W : WX} (tk : Takes X W) : Lets X ⟨XR, some W⟩ := fun σ => passAt tk σ
theorem Lets.no {X : Cx} {C : Cn} : Lets X (C0 C) := fun σ pins H s e s' I c => by
  obtain ⟨_, _, _, _, _, _, _, _, _, _, _, _, z⟩ := c
  exact z.elim
theorem ev_call {K : PySem.W.Frag} {C : Cn} {k : Nat} {f : Fn} {t : TA} {m : EL} (hk : ∀ xs, f xs ≠ .bad → xs.length = k) (ha : EvA K C t m) : EvE K C (tCallS (spF K C.XR k f) (CE C) t) (eCall f m) := fun N H σ env e s Q h => by
  have hb := PostR.bind (show PostR C σ N H ((m env).bind fun xs => (f xs).res) _ from h)
  cases hm : m env with
  | bad => rw [hm] at hb; exact hb.elim
  | exc q => exact ha N H σ env e s _ (by rw [hm] at hb ⊢; exact hb)
  | ok xs0 =>
    refine ha N H σ env e s _ ?_
    rw [hm] at hb ⊢
    intro N1 H1 g1 vs rvs
    have h1 : PostR C σ N1 H1 (f xs0).res fun x N' H' => ∀ (v : V), RV K N' v x → Q v H' := hb N1 H1 g1
    refine ⟨N1, xs0, g1.nh, rvs, hk xs0 fun z => (by rw [z] at h1; exact h1), ?_⟩
    cases hf : f xs0 with
    | bad => rw [hf] at h1; exact h1
    | ret y => rw [hf] at h1; exact h1
    | exc q =>
      rw [hf] at h1
      obtain ⟨w, hw, h2⟩ := (show ExcP C σ N1 H1 q from h1)
      intro cls d N' H' g' hx
      show CE C σ cls d H'
      unfold CE
      rw [hw]
      exact h2 cls d N' H' g' hx
section
variable {X : Cx} {C : Cn}
theorem se_call {x : Str} {j k : Nat} {f : Fn} {p pos : Pos} {e : Expr} {es : List Expr} {t : TA} {m : EL} (c : Cal X.prog X.w X.K X.mg X.base C.XR x j k f) (hr : Room j X.A) (hl : Lets X C) (ha : SA X C (e :: es) t m)
    (hg : Gl X x := by rfl) (hdb : (x == ("__debug__" : Str)) = false := by decide) (he : starEach (e :: es) X.env = (false, eval e X.env) :: starEach es X.env := by rfl) (hpl : (backTo pos (starEach es X.env)).any (·.1) = false := by rfl) :
    SE X C (.Call (.Name x p) (e :: es) [] pos) (tCallS (spF X.K C.XR k f) (CE C) t) (eCall f m) := by
  obtain ⟨a, fd, ps, F, hm, hkp, hb⟩ := c.ex
  exact ⟨pe_callS F hr hg hm hkp hb hl ha.pe hdb he hpl, ev_call c.ln ha.ev⟩
end
end Vm
namespace Vm
open PySem L2 PyProof.Rows
variable [TabsOf]
section
variable {K : PySem.W.Frag} {N : Hp}
theorem RKs.get {k : Key} : ∀ {vs : List (L2.Key × V)} {xs : List (Key × Val)}, RKs K N vs xs → match getV xs k with
    | some x => ∃ v, valV vs k = some v ∧ RV K N v x
    | none => valV vs k = none
  | _, _, .nil => rfl
  | _, _, .cons (k := k0) (v := v) (vs := vs) (x := x) (xs := xs) h r => by
    have ih := RKs.get (k := k) r
    by_cases e : k0 = k
    · have h1 : getV ((k0, x) :: xs) k = some x := by simp [getV, List.find?_cons, e]
      rw [h1]
      exact ⟨v, valV_pos e, h⟩
    · have h1 : getV ((k0, x) :: xs) k = getV xs k := by simp [getV, List.find?_cons, e]
      rw [h1, valV_neg e]
      exact ih
theorem RKs.some {k : Key} {vs : List (L2.Key × V)} {xs : List (Key × Val)} (r : RKs K N vs xs) : (valV vs k).isSome = (getV xs k).isSome := by
  have h := r.get (k := k)
  cases hg : getV xs k with
  | none => rw [hg] at h; simp only at h; rw [h]; rfl
  | some x => rw [hg] at h; obtain ⟨v, h1, _⟩ := h; rw [h1]; rfl
theorem RKs.length : ∀ {vs : List (L2.Key × V)} {xs : List (Key × Val)}, RKs K N vs xs → vs.length = xs.length
  | _, _, .nil => rfl
  | _, _, .cons _ r => congrArg (· + 1) r.length
theorem RKs.anyK {k : Key} : ∀ {vs : List (L2.Key × V)} {xs : List (Key × Val)}, RKs K N vs xs → (vs.any fun kv => decide (kv.1 = k)) = (xs.any fun kv => decide (kv.1 = k))
  | _, _, .nil => rfl
  | _, _, .cons _ r => by rw [List.any_cons, List.any_cons, RKs.anyK r]
theorem RKs.mapK {k : Key} {v : V} {x : Val} (h : RV K N v x) : ∀ {vs : List (L2.Key × V)} {xs : List (Key × Val)}, RKs K N vs xs → RKs K N (vs.map fun kv => if kv.1 = k then (kv.1, v) else kv) (xs.map fun kv => if kv.1 = k then (kv.1, x) else kv)
  | _, _, .nil => .nil
  | _, _, .cons (k := k0) h0 r => by
    rw [List.map_cons, List.map_cons]
    by_cases e : k0 = k
    · simp only [e, if_true]
      exact .cons h (RKs.mapK h r)
    · simp only [e, if_false]
      exact .cons h0 (RKs.mapK h r)
theorem RKs.snoc {k : Key} {v : V} {x : Val} (h : RV K N v x) : ∀ {vs : List (L2.Key × V)} {xs : List (Key × Val)}, RKs K N vs xs → RKs K N (vs ++ [(k, v)]) (xs ++ [(k, x)])
  | _, _, .nil => .cons h .nil
  | _, _, .cons h0 r => .cons h0 (RKs.snoc h r)
theorem RKs.put {k : Key} {v : V} {x : Val} {vs : List (L2.Key × V)} {xs : List (Key × Val)} (r : RKs K N vs xs) (h : RV K N v x) : RKs K N (putK vs k v) (putV xs k x) := by
  unfold putK putV
  rw [r.anyK]
  split
  · exact r.mapK h
  · exact r.snoc h
theorem keyOf_rv {w : V} {y : Val} {k : Key} (r : RV K N w y) (h : keyOfV y = some k) : w = kV k := by
  cases r with
  | int i => cases h; rfl
  | str x => cases h; rfl
  | _ => cases h
end
def rIxV (K : PySem.W.Frag) : R2 := fun x y H Q => rIx K x y H Q ∨ ∃ a v, x = .ref a ∧ DGet H a y (some v) ∧ Q v H
section
variable {X : Cx}
theorem ix_dK (hu : X.A.units + 1 < cLine) : IxR X (fun x y H Q => ∃ a v, x = .ref a ∧ DGet H a y (some v) ∧ Q v H) := by
  intro value slice pins s σ H x y v u Q I rx ry h hs
  obtain ⟨a, z, rfl, g, q⟩ := h
  obtain rfl : v = Value.ref a := rx
  exact tail_any (dict_typeIs I g) slot_dict_getitem.lookup (d_getItem hu I g ry fun w' s' I' rw' => ⟨z, H, I', rw', q⟩) hs
theorem ix_V (hu : X.A.units + 1 < cLine) : IxR X (rIxV X.K) := ix_seq.or (ix_dK hu)
def rNotInW (K : PySem.W.Frag) : R2 := fun x y H Q => rNotInV K x y H Q ∨ ∃ a o, y = .ref a ∧ DGet H a x o ∧ Q (.bl (!o.isSome)) H
theorem op_notInW (hu : X.A.units + 1 < cLine) : OpR X (compareOp .NotIn) (rNotInW X.K) := OpR.or op_notInV (by
  intro pins s σ H x y v u Q I rx ry h
  obtain ⟨a, o, rfl, g, q⟩ := h
  obtain rfl : u = Value.ref a := ry
  exact d_notIn hu I g rx fun s' I' => ⟨.bl (!o.isSome), H, I', rfl, q⟩)
end
section
variable {K : PySem.W.Frag} {C : Cn}
theorem nx_ixV (x y : Val) : NX (vIx x y) := by
  unfold vIx
  split
  · exact nx_ofOpt
  · exact nx_ofOpt
  · exact nx_ix _ _
theorem nx_inV (x y : Val) : NX (vIn x y) := by
  unfold vIn
  split
  · unfold vInD; split <;> first | exact nx_ok | exact nx_bad
  · unfold vInD; split <;> first | exact nx_ok | exact nx_bad
  · exact nx_in _ _
theorem ops_ixV : OpS K (rIxV K) vIx := by
  intro N H e v w x y rx ry Q ⟨z, hz, k⟩
  cases rx with
  | @dct a kvs ys h r =>
    have hz : Res.ofOpt ((keyOfV y).bind (getV ys)) = .ok z := hz
    cases hk : keyOfV y with
    | none => rw [hk] at hz; cases hz
    | some q =>
      rw [hk] at hz
      have hz : Res.ofOpt (getV ys q) = .ok z := hz
      have g := r.get (k := q)
      cases hg : getV ys q with
      | none => rw [hg] at hz; cases hz
      | some x =>
        rw [hg] at hz g
        cases hz
        obtain ⟨u, h1, h2⟩ := g
        refine .inr ⟨a, u, rfl, ?_, k N H (Gr.refl e) u h2⟩
        rw [keyOf_rv ry hk, ← h1]
        exact (h.mono e).get
  | @dck a od kvs ys h0 r =>
    have hz : Res.ofOpt ((keyOfV y).bind (getV ys)) = .ok z := hz
    cases hk : keyOfV y with
    | none => rw [hk] at hz; cases hz
    | some q =>
      rw [hk] at hz
      have hz : Res.ofOpt (getV ys q) = .ok z := hz
      have g := r.get (k := q)
      cases hg : getV ys q with
      | none => rw [hg] at hz; cases hz
      | some x =>
        rw [hg] at hz g
        cases hz
        obtain ⟨u, h1, h2⟩ := g
        refine .inr ⟨a, u, rfl, ?_, k N H (Gr.refl e) u h2⟩
        rw [keyOf_rv ry hk, ← h1]
        exact (SqD.mono e (.inr ⟨_, h0⟩)).get
  | non => exact .inl (ops_ix N H e _ w .non y .non ry Q ⟨z, hz, k⟩)
  | bl b => exact .inl (ops_ix N H e _ w (.bl b) y (.bl b) ry Q ⟨z, hz, k⟩)
  | int i => exact .inl (ops_ix N H e _ w (.int i) y (.int i) ry Q ⟨z, hz, k⟩)
  | str s => exact .inl (ops_ix N H e _ w (.str s) y (.str s) ry Q ⟨z, hz, k⟩)
  | tup h r => exact .inl (ops_ix N H e _ w _ y (.tup h r) ry Q ⟨z, hz, k⟩)
  | lst h r => exact .inl (ops_ix N H e _ w _ y (.lst h r) ry Q ⟨z, hz, k⟩)
  | dcT h r => exact .inl (ops_ix N H e _ w _ y (.dcT h r) ry Q ⟨z, hz, k⟩)
  | ob h r => exact .inl (ops_ix N H e _ w _ y (.ob h r) ry Q ⟨z, hz, k⟩)
theorem ops_notInW : OpS K (rNotInW K) vNotIn := by
  intro N H e v w x y rx ry Q ⟨z, hz, k⟩
  cases ry with
  | @dct a kvs ys h r =>
    have hz : rNot (vInD x ys) = .ok z := hz
    unfold vInD at hz
    cases hk : keyOfV x with
    | none => rw [hk] at hz; cases hz
    | some q =>
      rw [hk] at hz
      cases hz
      refine .inr ⟨a, valV kvs q, rfl, ?_, ?_⟩
      · rw [keyOf_rv rx hk]; exact (h.mono e).get
      · rw [r.some]; exact k N H (Gr.refl e) _ (.bl _)
  | @dck a od kvs ys h0 r =>
    have hz : rNot (vInD x ys) = .ok z := hz
    unfold vInD at hz
    cases hk : keyOfV x with
    | none => rw [hk] at hz; cases hz
    | some q =>
      rw [hk] at hz
      cases hz
      refine .inr ⟨a, valV kvs q, rfl, ?_, ?_⟩
      · rw [keyOf_rv rx hk]; exact (SqD.mono e (.inr ⟨_, h0⟩)).get
      · rw [r.some]; exact k N H (Gr.refl e) _ (.bl _)
  | non => exact .inl (ops_notIn N H e v _ x .non rx .non Q ⟨z, hz, k⟩)
  | bl b => exact .inl (ops_notIn N H e v _ x (.bl b) rx (.bl b) Q ⟨z, hz, k⟩)
  | int i => exact .inl (ops_notIn N H e v _ x (.int i) rx (.int i) Q ⟨z, hz, k⟩)
  | str s => exact .inl (ops_notIn N H e v _ x (.str s) rx (.str s) Q ⟨z, hz, k⟩)
  | tup h r => exact .inl (ops_notIn N H e v _ x _ rx (.tup h r) Q ⟨z, hz, k⟩)
  | lst h r => exact .inl (ops_notIn N H e v _ x _ rx (.lst h r) Q ⟨z, hz, k⟩)
  | dcT h r => exact .inl (ops_notIn N H e v _ x _ rx (.dcT h r) Q ⟨z, hz, k⟩)
  | ob h r => exact .inl (ops_notIn N H e v _ x _ rx (.ob h r) Q ⟨z, hz, k⟩)
end
end Vm
namespace Vm
open PySem L2 PyProof.Rows
variable [TabsOf]
mutual
inductive RT (K : PySem.W.Frag) (M H : Hp) : V → Tr → List Addr → Prop
  | v {v : V} {x : Val} : RV K M v x → RT K M H v (.v x) []
  | l {a : Addr} {vs : List V} {ts : List Tr} {f : List Addr} : H a = some (.lst vs) → RTl K M H vs ts f → RT K M H (.ref a) (.l ts) (a :: f)
  | d {a : Addr} {vs : List (L2.Key × V)} {ts : List (Key × Tr)} {f : List Addr} : H a = some (.dK vs) → RTd K M H vs ts f → RT K M H (.ref a) (.d ts) (a :: f)
  | dT {a : Addr} {vs : List (List L2.Key × V)} {ts : List (List Key × Tr)} {f : List Addr} : H a = some (.dT vs) → RTt K M H vs ts f → RT K M H (.ref a) (.dT ts) (a :: f)
  | o {a dx : Addr} {c : Str} {vs : List (Str × V)} {ts : List (Str × Tr)} {f : List Addr} : H a = some (.ins (He.ga K c) dx vs) → H dx = some (.own a) → RTo K M H vs ts f → RT K M H (.ref a) (.o c ts) (a :: dx :: f)
inductive RTl (K : PySem.W.Frag) (M H : Hp) : List V → List Tr → List Addr → Prop
  | nil : RTl K M H [] [] []
  | cons {v : V} {vs : List V} {t : Tr} {ts : List Tr} {f fs : List Addr} : RT K M H v t f → RTl K M H vs ts fs → RTl K M H (v :: vs) (t :: ts) (f ++ fs)
inductive RTd (K : PySem.W.Frag) (M H : Hp) : List (L2.Key × V) → List (Key × Tr) → List Addr → Prop
  | nil : RTd K M H [] [] []
  | cons {k : Key} {v : V} {vs : List (L2.Key × V)} {t : Tr} {ts : List (Key × Tr)} {f fs : List Addr} : RT K M H v t f → RTd K M H vs ts fs → RTd K M H ((k, v) :: vs) ((k, t) :: ts) (f ++ fs)
inductive RTt (K : PySem.W.Frag) (M H : Hp) : List (List L2.Key × V) → List (List Key × Tr) → List Addr → Prop
  | nil : RTt K M H [] [] []
  | cons {k : List Key} {v : V} {vs : List (List L2.Key × V)} {t : Tr} {ts : List (List Key × Tr)} {f fs : List Addr} : RT K M H v t f → RTt K M H vs ts fs → RTt K M H ((k, v) :: vs) ((k, t) :: ts) (f ++ fs)
inductive RTo (K : PySem.W.Frag) (M H : Hp) : List (Str × V) → List (Str × Tr) → List Addr → Prop
  | nil : RTo K M H [] [] []
  | cons {k : Str} {v : V} {vs : List (Str × V)} {t : Tr} {ts : List (Str × Tr)} {f fs : List Addr} : RT K M H v t f → RTo K M H vs ts fs → RTo K M H ((k, v) :: vs) ((k, t) :: ts) (f ++ fs)
end
/-- what a slot may own -/
def OwnO : HO → Prop
  | .lst _ => True
  | .dK _ => True
  | .dT _ => True
  | .ins _ _ _ => True
  | .own _ => True
  | _ => False
section
variable {K : PySem.W.Frag} {M H M' H' : Hp}
mutual
theorem RT.mono (em : Sub M M') : ∀ (t : Tr) {v : V} {f : List Addr}, (∀ a ∈ f, H' a = H a) → RT K M H v t f → RT K M' H' v t f
  | .v x, _, _, _, .v r => .v (r.mono em)
  | .l ts, _, _, eh, .l h r => .l (by rw [eh _ List.mem_cons_self]; exact h) (RTl.mono em ts (fun a ha => eh a (List.mem_cons_of_mem _ ha)) r)
  | .d ts, _, _, eh, .d h r => .d (by rw [eh _ List.mem_cons_self]; exact h) (RTd.mono em ts (fun a ha => eh a (List.mem_cons_of_mem _ ha)) r)
  | .dT ts, _, _, eh, .dT h r => .dT (by rw [eh _ List.mem_cons_self]; exact h) (RTt.mono em ts (fun a ha => eh a (List.mem_cons_of_mem _ ha)) r)
  | .o c ts, _, _, eh, .o h h' r => .o (by rw [eh _ List.mem_cons_self]; exact h) (by rw [eh _ (List.mem_cons_of_mem _ List.mem_cons_self)]; exact h') (RTo.mono em ts (fun a ha => eh a (List.mem_cons_of_mem _ (List.mem_cons_of_mem _ ha))) r)
theorem RTl.mono (em : Sub M M') : ∀ (ts : List Tr) {vs : List V} {f : List Addr}, (∀ a ∈ f, H' a = H a) → RTl K M H vs ts f → RTl K M' H' vs ts f
  | [], _, _, _, .nil => .nil
  | t :: ts, _, _, eh, .cons r r' => .cons (RT.mono em t (fun a ha => eh a (List.mem_append_left _ ha)) r) (RTl.mono em ts (fun a ha => eh a (List.mem_append_right _ ha)) r')
theorem RTd.mono (em : Sub M M') : ∀ (ts : List (Key × Tr)) {vs : List (L2.Key × V)} {f : List Addr}, (∀ a ∈ f, H' a = H a) → RTd K M H vs ts f → RTd K M' H' vs ts f
  | [], _, _, _, .nil => .nil
  | (_, t) :: ts, _, _, eh, .cons r r' => .cons (RT.mono em t (fun a ha => eh a (List.mem_append_left _ ha)) r) (RTd.mono em ts (fun a ha => eh a (List.mem_append_right _ ha)) r')
theorem RTt.mono (em : Sub M M') : ∀ (ts : List (List Key × Tr)) {vs : List (List L2.Key × V)} {f : List Addr}, (∀ a ∈ f, H' a = H a) → RTt K M H vs ts f → RTt K M' H' vs ts f
  | [], _, _, _, .nil => .nil
  | (_, t) :: ts, _, _, eh, .cons r r' => .cons (RT.mono em t (fun a ha => eh a (List.mem_append_left _ ha)) r) (RTt.mono em ts (fun a ha => eh a (List.mem_append_right _ ha)) r')
theorem RTo.mono (em : Sub M M') : ∀ (ts : List (Str × Tr)) {vs : List (Str × V)} {f : List Addr}, (∀ a ∈ f, H' a = H a) → RTo K M H vs ts f → RTo K M' H' vs ts f
  | [], _, _, _, .nil => .nil
  | (_, t) :: ts, _, _, eh, .cons r r' => .cons (RT.mono em t (fun a ha => eh a (List.mem_append_left _ ha)) r) (RTo.mono em ts (fun a ha => eh a (List.mem_append_right _ ha)) r')
end
mutual
theorem RT.kinds : ∀ (t : Tr) {v : V} {f : List Addr}, RT K M H v t f → ∀ a ∈ f, ∃ o, H a = some o ∧ OwnO o
  | .v x, _, _, .v r, a, ha => by cases ha
  | .l ts, _, _, .l h r, a, ha => by
    rcases List.mem_cons.mp ha with rfl | ha
    · exact ⟨_, h, trivial⟩
    · exact RTl.kinds ts r a ha
  | .d ts, _, _, .d h r, a, ha => by
    rcases List.mem_cons.mp ha with rfl | ha
    · exact ⟨_, h, trivial⟩
    · exact RTd.kinds ts r a ha
  | .dT ts, _, _, .dT h r, a, ha => by
    rcases List.mem_cons.mp ha with rfl | ha
    · exact ⟨_, h, trivial⟩
    · exact RTt.kinds ts r a ha
  | .o c ts, _, _, .o h h' r, a, ha => by
    rcases List.mem_cons.mp ha with rfl | ha
    · exact ⟨_, h, trivial⟩
    · rcases List.mem_cons.mp ha with rfl | ha
      · exact ⟨_, h', trivial⟩
      · exact RTo.kinds ts r a ha
theorem RTl.kinds : ∀ (ts : List Tr) {vs : List V} {f : List Addr}, RTl K M H vs ts f → ∀ a ∈ f, ∃ o, H a = some o ∧ OwnO o
  | [], _, _, .nil, a, ha => by cases ha
  | t :: ts, _, _, .cons r r', a, ha => by
    rcases List.mem_append.mp ha with ha | ha
    · exact RT.kinds t r a ha
    · exact RTl.kinds ts r' a ha
theorem RTd.kinds : ∀ (ts : List (Key × Tr)) {vs : List (L2.Key × V)} {f : List Addr}, RTd K M H vs ts f → ∀ a ∈ f, ∃ o, H a = some o ∧ OwnO o
  | [], _, _, .nil, a, ha => by cases ha
  | (_, t) :: ts, _, _, .cons r r', a, ha => by
    rcases List.mem_append.mp ha with ha | ha
    · exact RT.kinds t r a ha
    · exact RTd.kinds ts r' a ha
theorem RTt.kinds : ∀ (ts : List (List Key × Tr)) {vs : List (List L2.Key × V)} {f : List Addr}, RTt K M H vs ts f → ∀ a ∈ f, ∃ o, H a = some o ∧ OwnO o
  | [], _, _, .nil, a, ha => by cases ha
  | (_, t) :: ts, _, _, .cons r r', a, ha => by
    rcases List.mem_append.mp ha with ha | ha
    · exact RT.kinds t r a ha
    · exact RTt.kinds ts r' a ha
theorem RTo.kinds : ∀ (ts : List (Str × Tr)) {vs : List (Str × V)} {f : List Addr}, RTo K M H vs ts f → ∀ a ∈ f, ∃ o, H a = some o ∧ OwnO o
  | [], _, _, .nil, a, ha => by cases ha
  | (_, t) :: ts, _, _, .cons r r', a, ha => by
    rcases List.mem_append.mp ha with ha | ha
    · exact RT.kinds t r a ha
    · exact RTo.kinds ts r' a ha
end
mutual
theorem RT.rv {N : Hp} (e : Sub M N) : ∀ (t : Tr) {v : V} {f : List Addr}, (∀ a ∈ f, N a = H a) → RT K M H v t f → RV K N v t.val
  | .v x, _, _, _, .v r => r.mono e
  | .l ts, _, _, en, .l h r => .lst (SqL.of (by rw [en _ List.mem_cons_self]; exact h)) (RTl.rv e ts (fun a ha => en a (List.mem_cons_of_mem _ ha)) r)
  | .d ts, _, _, en, .d h r => .dct (.inl (show N _ = _ by rw [en _ List.mem_cons_self]; exact h)) (RTd.rv e ts (fun a ha => en a (List.mem_cons_of_mem _ ha)) r)
  | .dT ts, _, _, en, .dT h r => .dcT (by rw [en _ List.mem_cons_self]; exact h) (RTt.rv e ts (fun a ha => en a (List.mem_cons_of_mem _ ha)) r)
  | .o c ts, _, _, en, .o h h' r => .ob (by rw [en _ List.mem_cons_self]; exact h) (RTo.rv e ts (fun a ha => en a (List.mem_cons_of_mem _ (List.mem_cons_of_mem _ ha))) r)
theorem RTl.rv {N : Hp} (e : Sub M N) : ∀ (ts : List Tr) {vs : List V} {f : List Addr}, (∀ a ∈ f, N a = H a) → RTl K M H vs ts f → RVs K N vs (Tr.vals ts)
  | [], _, _, _, .nil => .nil
  | t :: ts, _, _, en, .cons r r' => .cons (RT.rv e t (fun a ha => en a (List.mem_append_left _ ha)) r) (RTl.rv e ts (fun a ha => en a (List.mem_append_right _ ha)) r')
theorem RTd.rv {N : Hp} (e : Sub M N) : ∀ (ts : List (Key × Tr)) {vs : List (L2.Key × V)} {f : List Addr}, (∀ a ∈ f, N a = H a) → RTd K M H vs ts f → RKs K N vs (Tr.valsD ts)
  | [], _, _, _, .nil => .nil
  | (_, t) :: ts, _, _, en, .cons r r' => .cons (RT.rv e t (fun a ha => en a (List.mem_append_left _ ha)) r) (RTd.rv e ts (fun a ha => en a (List.mem_append_right _ ha)) r')
theorem RTt.rv {N : Hp} (e : Sub M N) : ∀ (ts : List (List Key × Tr)) {vs : List (List L2.Key × V)} {f : List Addr}, (∀ a ∈ f, N a = H a) → RTt K M H vs ts f → RTs K N vs (Tr.valsT ts)
  | [], _, _, _, .nil => .nil
  | (_, t) :: ts, _, _, en, .cons r r' => .cons (RT.rv e t (fun a ha => en a (List.mem_append_left _ ha)) r) (RTt.rv e ts (fun a ha => en a (List.mem_append_right _ ha)) r')
theorem RTo.rv {N : Hp} (e : Sub M N) : ∀ (ts : List (Str × Tr)) {vs : List (Str × V)} {f : List Addr}, (∀ a ∈ f, N a = H a) → RTo K M H vs ts f → RFs K N vs (Tr.valsO ts)
  | [], _, _, _, .nil => .nil
  | (_, t) :: ts, _, _, en, .cons r r' => .cons (RT.rv e t (fun a ha => en a (List.mem_append_left _ ha)) r) (RTo.rv e ts (fun a ha => en a (List.mem_append_right _ ha)) r')
end
end
/-- one slot, with the addresses of its own -/
inductive SlR1 (K : PySem.W.Frag) (me : V) (M H : Hp) : Option V → Slot → List Addr → Prop
  | un (s : Option V) : SlR1 K me M H s .un []
  | sh {v : V} {x : Val} : RV K M v x → SlR1 K me M H (some v) (.sh x) []
  | oL {a : Addr} {vs : List V} {xs : List Val} : H a = some (.lst vs) → RVs K M vs xs → SlR1 K me M H (some (.ref a)) (.oL xs) [a]
  | oD {a : Addr} {vs : List (L2.Key × V)} {xs : List (Key × Val)} : H a = some (.dK vs) → RKs K M vs xs → SlR1 K me M H (some (.ref a)) (.oD xs) [a]
  | oT {v : V} {t : Tr} {f : List Addr} : RT K M H v t f → SlR1 K me M H (some v) (.oT t) f
  | me {t : Tr} {f : List Addr} : RT K M H me t f → SlR1 K me M H (some me) (.me t) f
inductive SO (K : PySem.W.Frag) (me : V) (M H : Hp) : L2.St → Env → List Addr → Prop
  | nil : SO K me M H [] [] []
  | cons {s : Option V} {e : Slot} {f fs : List Addr} {σ : L2.St} {env : Env} : SlR1 K me M H s e f → SO K me M H σ env fs → SO K me M H (s :: σ) (e :: env) (f ++ fs)
section
variable {K : PySem.W.Frag} {me : V} {M H M' H' : Hp} {σ : L2.St} {env : Env} {fs : List Addr}
theorem SlR1.mono {s : Option V} {e : Slot} {f : List Addr} (em : Sub M M') (eh : ∀ a ∈ f, H' a = H a) (h : SlR1 K me M H s e f) : SlR1 K me M' H' s e f := by
  cases h with
  | un => exact .un _
  | sh r => exact .sh (r.mono em)
  | oL h r => exact .oL (by rw [eh _ List.mem_cons_self]; exact h) (r.mono em)
  | oD h r => exact .oD (by rw [eh _ List.mem_cons_self]; exact h) (r.mono em)
  | oT r => exact .oT (RT.mono em _ eh r)
  | me r => exact .me (RT.mono em _ eh r)
theorem SO.mono (em : Sub M M') (eh : ∀ a ∈ fs, H' a = H a) (h : SO K me M H σ env fs) : SO K me M' H' σ env fs := by
  induction h with
  | nil => exact .nil
  | cons r _ ih => exact .cons (r.mono em fun a ha => eh a (List.mem_append_left _ ha)) (ih fun a ha => eh a (List.mem_append_right _ ha))
theorem SO.known (h : SO K me M H σ env fs) : ∀ a ∈ fs, H a ≠ none := by
  induction h with
  | nil => intro a ha; cases ha
  | cons r _ ih =>
    intro a ha
    rcases List.mem_append.mp ha with ha | ha
    · cases r with
      | un => cases ha
      | sh => cases ha
      | oL h _ => rw [List.mem_singleton] at ha; subst ha; rw [h]; simp
      | oD h _ => rw [List.mem_singleton] at ha; subst ha; rw [h]; simp
      | oT r =>
        obtain ⟨o, h, _⟩ := RT.kinds _ r a ha
        rw [h]; simp
      | me r =>
        obtain ⟨o, h, _⟩ := RT.kinds _ r a ha
        rw [h]; simp
    · exact ih a ha
theorem SO.len (h : SO K me M H σ env fs) : σ.length = env.length := by
  induction h with
  | nil => rfl
  | cons _ _ ih => exact congrArg (· + 1) ih
/-- the i-th slot apart -/
theorem SO.at (h : SO K me M H σ env fs) : ∀ {i : Nat} {e : Slot}, env[i]? = some e → ∃ s f1 f f2, σ[i]? = some s ∧ fs = f1 ++ (f ++ f2) ∧ SlR1 K me M H s e f ∧
    ∀ {M' H' : Hp} {s' : Option V} {e' : Slot} {f' : List Addr}, Sub M M' → (∀ a ∈ f1 ++ f2, H' a = H a) → SlR1 K me M' H' s' e' f' → SO K me M' H' (σ.set i s') (env.set i e') (f1 ++ (f' ++ f2)) := by
  induction h with
  | nil => intro i e h; simp at h
  | @cons s e f fs σ env r t ih =>
    intro i e0 h
    cases i with
    | zero =>
      simp at h
      subst h
      refine ⟨s, [], f, fs, rfl, rfl, r, @fun M' H' s' e' f' em eh r' => ?_⟩
      show SO K me M' H' (s' :: σ) (e' :: env) (f' ++ fs)
      exact SO.cons r' (t.mono em fun a ha => eh a (by simpa using ha))
    | succ i =>
      obtain ⟨s0, f1, g, f2, h1, h2, h3, h4⟩ := ih (i := i) (e := e0) (by simpa using h)
      refine ⟨s0, f ++ f1, g, f2, by simpa using h1, by rw [h2, List.append_assoc], h3, fun em eh r' => ?_⟩
      have := h4 em (fun a ha => eh a (by simp only [List.mem_append] at ha ⊢; rcases ha with ha | ha <;> simp [ha])) r'
      rw [List.append_assoc]
      exact .cons (r.mono em fun a ha => eh a (by simp [ha])) this
end
section
variable {K : PySem.W.Frag} {M H : Hp} {σ : L2.St} {env : Env} {fs : List Addr}
theorem SO.kinds {me : V} (h : SO K me M H σ env fs) : ∀ a ∈ fs, ∃ o, H a = some o ∧ OwnO o := by
  induction h with
  | nil => intro a ha; cases ha
  | cons r _ ih =>
    intro a ha
    rcases List.mem_append.mp ha with ha | ha
    · cases r with
      | un => cases ha
      | sh => cases ha
      | oL h _ => rw [List.mem_singleton] at ha; subst ha; exact ⟨_, h, trivial⟩
      | oD h _ => rw [List.mem_singleton] at ha; subst ha; exact ⟨_, h, trivial⟩
      | oT r => exact RT.kinds _ r a ha
      | me r => exact RT.kinds _ r a ha
    · exact ih a ha
end
theorem own_ntb {o : HO} (h : OwnO o) : ntb o = true := by cases o <;> first | rfl | exact h.elim
theorem own_wr {o : HO} (h : OwnO o) : Wr o = true := by cases o <;> first | rfl | exact h.elim
structure Bs where
  m : Hp
  h : Hp
  l : Hp
  me : V := .non
structure SR (K : PySem.W.Frag) (B : Bs) (M H : Hp) (σ : L2.St) (env : Env) (fs : List Addr) : Prop where
  g : Gr B.m B.h M H
  lo : Sub B.l M
  fr : ∀ a ∈ fs, M a = none ∧ B.h a = none
  nd : fs.Nodup
  sl : SO K B.me M H σ env fs
theorem SR.at_low {K : PySem.W.Frag} {B : Bs} {M M1 H : Hp} {σ : L2.St} {env : Env} {fs : List Addr} (S : SR K B M H σ env fs) (e : Sub M1 M) : SR K { B with l := M1 } M H σ env fs := ⟨S.g, e, S.fr, S.nd, S.sl⟩
theorem SR.of_low {K : PySem.W.Frag} {B : Bs} {M M1 H : Hp} {σ : L2.St} {env : Env} {fs : List Addr} (e : Sub B.l M1) (S : SR K { B with l := M1 } M H σ env fs) : SR K B M H σ env fs := ⟨S.g, e.trans S.lo, S.fr, S.nd, S.sl⟩
/-- all that stands, the slots' own lists too -/
def full (M H : Hp) (fs : List Addr) : Hp := fun a => if a ∈ fs then H a else M a
/-- what stays, where the slots' own lists are left out -/
def part (N : Hp) (fs : List Addr) : Hp := fun a => if a ∈ fs then none else N a
section
variable {K : PySem.W.Frag} {B : Bs} {M H M' H' N' : Hp} {σ : L2.St} {env : Env} {fs : List Addr}
theorem full_sub (S : SR K B M H σ env fs) : Inn (full M H fs) H := S.g.nh.part fun a o q => by
  unfold full at q
  split at q
  · rename_i ha
    obtain ⟨o', h, h'⟩ := S.sl.kinds a ha
    rw [q] at h
    cases h
    exact ⟨q, .inr (own_ntb h')⟩
  · exact ⟨S.g.nh a o q, .inl q⟩
theorem Inn.cut {N H : Hp} (e : Inn N H) (fs : List Addr) : Inn (Vm.part N fs) H := e.part fun a o q => by
  unfold Vm.part at q
  split at q
  · cases q
  · exact ⟨e a o q, .inl q⟩
theorem sub_full (S : SR K B M H σ env fs) : Sub M (full M H fs) := fun a o q => by
  unfold full
  rw [if_neg fun h => by rw [(S.fr a h).1] at q; cases q]
  exact q
theorem full_gr (S : SR K B M H σ env fs) : Gr B.m B.h (full M H fs) H := by
  refine ⟨S.g.hh, fun a o q => sub_full S a o (S.g.nn a o q), full_sub S, fun a q => ?_⟩
  unfold full at q
  split at q
  · rename_i h; exact .inr (S.fr a h).2
  · exact S.g.nw a q
theorem SO.sv {me : V} {N : Hp} (e : Sub M N) (en : ∀ a ∈ fs, N a = H a) (h : SO K me M H σ env fs) : SV K N σ env := by
  induction h with
  | nil => exact .nil
  | @cons s e' f fs σ env r _ ih =>
    have ih' := ih fun a ha => en a (List.mem_append_right _ ha)
    cases r with
    | un => exact .un ih'
    | sh r => exact .sh (r.mono e) ih'
    | oL h r => exact .oL (.lst (SqL.of (by rw [en _ (by simp)]; exact h)) (r.mono e)) ih'
    | oD h r => exact .oD (.dct (.inl (show N _ = _ by rw [en _ (by simp)]; exact h)) (r.mono e)) ih'
    | oT r => exact .oT (RT.rv e _ (fun a ha => en a (List.mem_append_left _ ha)) r) ih'
    | me r => exact .me (RT.rv e _ (fun a ha => en a (List.mem_append_left _ ha)) r) ih'
theorem SR.sv (S : SR K B M H σ env fs) : SV K (full M H fs) σ env := S.sl.sv (sub_full S) fun a ha => if_pos ha
theorem SO.hid {me : V} (h : SO K me M H σ env fs) : SV K M σ (hide env) := by
  induction h with
  | nil => exact .nil
  | cons r _ ih =>
    cases r with
    | un => exact .un ih
    | sh r => exact .sh r ih
    | oL _ _ => exact .un ih
    | oD _ _ => exact .un ih
    | oT _ => exact .un ih
    | me _ => exact .un ih
/-- behind an expression over all that stands -/
theorem SR.behind (S : SR K B M H σ env fs) (g : Gr (full M H fs) H N' H') : SR K B (part N' fs) H' σ env fs := by
  have em : Sub M (part N' fs) := fun a o q => by
    unfold part
    rw [if_neg fun h => by rw [(S.fr a h).1] at q; cases q]
    exact g.nn a o (sub_full S a o q)
  refine ⟨⟨S.g.hh.trans g.hh, fun a o q => em a o (S.g.nn a o q), g.nh.cut fs, fun a q => ?_⟩, S.lo.trans em, fun a ha => ⟨if_pos ha, (S.fr a ha).2⟩, S.nd, S.sl.mono em fun a ha => ?_⟩
  · unfold part at q
    split at q
    · exact absurd rfl q
    · rename_i ha
      rcases g.nw a q with h | h
      · unfold full at h
        rw [if_neg ha] at h
        exact S.g.nw a h
      · exact .inr (S.g.hh.free h)
  · obtain ⟨o, hq, ho⟩ := S.sl.kinds a ha
    rw [hq]
    exact g.hh.to a o hq (own_ntb ho)
/-- behind an expression over what stays -/
theorem SR.behindH (S : SR K B M H σ env fs) (g : Gr M H M' H') : SR K B M' H' σ env fs := by
  refine ⟨S.g.trans g, S.lo.trans g.nn, fun a ha => ⟨?_, (S.fr a ha).2⟩, S.nd, S.sl.mono g.nn fun a ha => ?_⟩
  · cases hq : M' a with
    | none => rfl
    | some o =>
      rcases g.nw a (by rw [hq]; simp) with h | h
      · exact absurd (S.fr a ha).1 h
      · exact absurd h (S.sl.known a ha)
  · obtain ⟨o, hq, ho⟩ := S.sl.kinds a ha
    rw [hq]
    exact g.hh.to a o hq (own_ntb ho)
mutual
theorem RV.strip {N : Hp} (hn : ∀ a ∈ fs, ∃ o, N a = some o ∧ OwnO o) : ∀ (x : Val) {v : V}, RV K N v x → x.noLst = true → RV K (part N fs) v x
  | .non, _, .non, _ => .non
  | .bl _, _, .bl b, _ => .bl b
  | .int _, _, .int i, _ => .int i
  | .str _, _, .str x, _ => .str x
  | .tup xs, _, .tup (a := a) (vs := vs) h r, e => by
    have hx := RVs.strip hn xs r e
    refine .tup ?_ hx
    rcases h with h | h
    · refine .inl ?_
      unfold part
      rw [if_neg fun ha => by
        obtain ⟨o', q, q'⟩ := hn a ha
        rw [h] at q
        cases q
        exact q']
      exact h
    · exact .inr h
  | .lst _, _, _, e => by simp [Val.noLst] at e
  | .dct _, _, _, e => by simp [Val.noLst] at e
  | .dcT _, _, _, e => by simp [Val.noLst] at e
  | .dck xs, _, .dck (a := a) (od := od) (kvs := vs) h r, e => by
    refine .dck (od := od) ?_ (RKs.strip hn xs r e)
    unfold part
    rw [if_neg fun ha => by
      obtain ⟨o', q, q'⟩ := hn a ha
      rw [h] at q
      cases q
      exact q']
    exact h
  | .ob _ _, _, _, e => by simp [Val.noLst] at e
theorem RVs.strip {N : Hp} (hn : ∀ a ∈ fs, ∃ o, N a = some o ∧ OwnO o) : ∀ (xs : List Val) {vs : List V}, RVs K N vs xs → Val.noLsts xs = true → RVs K (part N fs) vs xs
  | [], _, .nil, _ => .nil
  | x :: xs, _, .cons h r, e => by
    simp only [Val.noLsts, Bool.and_eq_true] at e
    exact .cons (RV.strip hn x h e.1) (RVs.strip hn xs r e.2)
theorem RKs.strip {N : Hp} (hn : ∀ a ∈ fs, ∃ o, N a = some o ∧ OwnO o) : ∀ (xs : List (Key × Val)) {vs : List (L2.Key × V)}, RKs K N vs xs → Val.noLstK xs = true → RKs K (part N fs) vs xs
  | [], _, .nil, _ => .nil
  | (_, x) :: xs, _, .cons h r, e => by
    simp only [Val.noLstK, Bool.and_eq_true] at e
    exact .cons (RV.strip hn x h e.1) (RKs.strip hn xs r e.2)
end
theorem SR.kindsN (S : SR K B M H σ env fs) (g : Gr (full M H fs) H N' H') : ∀ a ∈ fs, ∃ o, N' a = some o ∧ OwnO o := fun a ha => by
  obtain ⟨o, h, h'⟩ := S.sl.kinds a ha
  exact ⟨o, g.nn a _ (by unfold full; rw [if_pos ha]; exact h), h'⟩
theorem nodup_mid {f1 f f' f2 : List Addr} (h : (f1 ++ (f ++ f2)).Nodup) (h1 : f'.Nodup) (h2 : ∀ a ∈ f', a ∉ f1 ++ f2) : (f1 ++ (f' ++ f2)).Nodup := by
  rw [List.nodup_append] at h ⊢
  obtain ⟨a, b, c⟩ := h
  rw [List.nodup_append] at b
  refine ⟨a, List.nodup_append.mpr ⟨h1, b.2.1, fun x hx y hy z => ?_⟩, fun x hx y hy z => ?_⟩
  · subst z; exact h2 x hx (List.mem_append_right _ hy)
  · subst z
    rcases List.mem_append.mp hy with hy | hy
    · exact h2 x hy (List.mem_append_left _ hx)
    · exact c x hx x (List.mem_append_right _ hy) rfl
/-- a slot gets a value that stays (or nothing) -/
theorem SR.put (S : SR K B M H σ env fs) {i : Nat} (hi : i < env.length) {s : Option V} {e : Slot} (r : SlR1 K B.me M H s e []) : ∃ fs', SR K B M H (σ.set i s) (env.set i e) fs' := by
  obtain ⟨s0, f1, f, f2, h1, h2, h3, h4⟩ := S.sl.at (List.getElem?_eq_getElem hi)
  refine ⟨f1 ++ ([] ++ f2), S.g, S.lo, fun a ha => S.fr a ?_, ?_, h4 (Same.refl _) (fun _ _ => rfl) r⟩
  · rw [h2]
    simp only [List.nil_append, List.mem_append] at ha ⊢
    rcases ha with ha | ha <;> simp [ha]
  · exact nodup_mid (by rw [← h2]; exact S.nd) .nil fun a ha => by cases ha
theorem SR.putV (S : SR K B M H σ env fs) {i : Nat} {v : V} {x : Val} (r : RV K M v x) : ∃ fs', SR K B M H (σ.set i (some v)) (env.set i (.sh x)) fs' := by
  by_cases hi : i < env.length
  · exact S.put hi (.sh r)
  · rw [List.set_eq_of_length_le (by rw [S.sl.len]; omega), List.set_eq_of_length_le (by omega)]
    exact ⟨fs, S⟩
theorem SR.sets : ∀ {l : List (Nat × V × Val)} {σ : L2.St} {env : Env} {fs : List Addr}, SR K B M H σ env fs → (∀ t ∈ l, RV K M t.2.1 t.2.2) → ∃ fs', SR K B M H (setsS σ l) (setsE env l) fs'
  | [], _, _, fs, S, _ => ⟨fs, S⟩
  | t :: l, σ, env, fs, S, h => by
    obtain ⟨fs', S'⟩ := S.putV (i := t.1) (h t List.mem_cons_self)
    exact SR.sets (l := l) S' fun t' ht => h t' (List.mem_cons_of_mem _ ht)
/-- a slot gets a new list of its own -/
theorem SR.own (S : SR K B M H σ env fs) {i : Nat} (hi : i < env.length) {p : Addr} {vs : List V} {xs : List Val} (hp : H p = none) (r : RVs K M vs xs) : ∃ fs', SR K B M (upd H p (.lst vs)) (σ.set i (some (.ref p))) (env.set i (.oL xs)) fs' := by
  obtain ⟨s0, f1, f, f2, h1, h2, h3, h4⟩ := S.sl.at (List.getElem?_eq_getElem hi)
  have hne : ∀ a, H a ≠ none → a ≠ p := fun a h z => by subst z; exact h hp
  have hM : M p = none := by
    cases hq : M p with
    | none => rfl
    | some o => have := S.g.nh p o hq; rw [hp] at this; cases this
  have hB : B.h p = none := S.g.hh.free hp
  refine ⟨f1 ++ ([p] ++ f2), ⟨S.g.hh.upd hB, S.g.nn, S.g.nh.newH hp, S.g.nw⟩, S.lo, fun a ha => ?_, ?_, h4 (Same.refl _) (fun a ha => upd_ne (hne a (S.sl.known a ?_))) (.oL upd_same r)⟩
  · simp only [List.mem_append, List.mem_singleton] at ha
    rcases ha with ha | ha | ha
    · exact S.fr a (by rw [h2]; simp [ha])
    · subst ha; exact ⟨hM, hB⟩
    · exact S.fr a (by rw [h2]; simp [ha])
  · refine nodup_mid (by rw [← h2]; exact S.nd) (List.nodup_cons.mpr ⟨by simp, .nil⟩) fun a ha hb => ?_
    rw [List.mem_singleton] at ha
    subst ha
    exact S.sl.known a (by rw [h2]; simp only [List.mem_append] at hb ⊢; rcases hb with h | h <;> simp [h]) hp
  · rw [h2]
    simp only [List.mem_append] at ha ⊢
    rcases ha with h | h <;> simp [h]
/-- the slot's own list is written -/
theorem SR.write (S : SR K B M H σ env fs) {i : Nat} {xs : List Val} (hi : env[i]? = some (.oL xs)) : ∃ a vs, σ[i]? = some (some (.ref a)) ∧ H a = some (.lst vs) ∧ RVs K M vs xs ∧
    ∀ {ws : List V} {ys : List Val}, RVs K M ws ys → SR K B M (upd H a (.lst ws)) σ (env.set i (.oL ys)) fs := by
  obtain ⟨s0, f1, f, f2, h1, h2, h3, h4⟩ := S.sl.at hi
  cases h3 with
  | @oL a vs _ ha r =>
    refine ⟨a, vs, h1, ha, r, fun {ws ys} r' => ?_⟩
    have hfs : a ∈ fs := by rw [h2]; simp
    have hne : ∀ b ∈ f1 ++ f2, b ≠ a := fun b hb z => by
      subst z
      have hn := S.nd
      rw [h2, List.nodup_append] at hn
      obtain ⟨_, n2, n3⟩ := hn
      rcases List.mem_append.mp hb with hb | hb
      · exact n3 b hb b (by simp) rfl
      · rw [List.nodup_append] at n2
        exact n2.2.2 b (by simp) b hb rfl
    have hsl := h4 (M' := M) (H' := upd H a (.lst ws)) (Same.refl _) (fun b hb => upd_ne (hne b hb)) (.oL upd_same r')
    have hset : σ.set i (some (.ref a)) = σ := by
      obtain ⟨hl, he⟩ := List.getElem?_eq_some_iff.mp h1
      rw [← he, List.set_getElem_self]
    rw [hset] at hsl
    have hB := (S.fr a hfs).2
    have hM := (S.fr a hfs).1
    exact ⟨⟨S.g.hh.upd hB, S.g.nn, S.g.nh.wr hM ha, S.g.nw⟩, S.lo, S.fr, S.nd, by rw [h2]; exact hsl⟩
/-- the slot's own list stays from here on -/
theorem SR.freeze (S : SR K B M H σ env fs) {i : Nat} {xs : List Val} (hi : env[i]? = some (.oL xs)) : ∃ M' fs', SR K B M' H σ (env.set i (.sh (.lst xs))) fs' := by
  obtain ⟨s0, f1, f, f2, h1, h2, h3, h4⟩ := S.sl.at hi
  cases h3 with
  | @oL a vs _ ha r =>
    have hfs : a ∈ fs := by rw [h2]; simp
    have hne : ∀ b ∈ f1 ++ f2, b ≠ a := fun b hb z => by
      subst z
      have hn := S.nd
      rw [h2, List.nodup_append] at hn
      obtain ⟨_, n2, n3⟩ := hn
      rcases List.mem_append.mp hb with hb | hb
      · exact n3 b hb b (by simp) rfl
      · rw [List.nodup_append] at n2
        exact n2.2.2 b (by simp) b hb rfl
    have hB := (S.fr a hfs).2
    have hM := (S.fr a hfs).1
    have em : Sub M (upd M a (.lst vs)) := fun b o q => by rw [upd_ne (ne_of_none q hM)]; exact q
    have hsl := h4 (M' := upd M a (.lst vs)) (H' := H) em (fun b hb => rfl) (.sh (v := .ref a) (.lst (SqL.of upd_same) (r.mono em)))
    have hset : σ.set i (some (.ref a)) = σ := by
      obtain ⟨hl, he⟩ := List.getElem?_eq_some_iff.mp h1
      rw [← he, List.set_getElem_self]
    rw [hset] at hsl
    refine ⟨_, _, ⟨S.g.hh, fun b o q => em b o (S.g.nn b o q), S.g.nh.add ha, fun b q => ?_⟩, S.lo.trans em, fun b hb => ?_, ?_, hsl⟩
    · by_cases hb : b = a
      · subst hb; exact .inr hB
      · rw [upd_ne hb] at q; exact S.g.nw b q
    · have hb' : b ∈ f1 ++ f2 := by simpa using hb
      have hbf : b ∈ fs := by
        rw [h2]; simp only [List.mem_append] at hb' ⊢; rcases hb' with h | h <;> simp [h]
      exact ⟨by rw [upd_ne (hne b hb')]; exact (S.fr b hbf).1, (S.fr b hbf).2⟩
    · exact nodup_mid (by rw [← h2]; exact S.nd) .nil fun a ha => by cases ha
end
theorem SO.notR {K : PySem.W.Frag} {me : V} {M H : Hp} {σ : L2.St} {env : Env} {fs : List Addr} (h : SO K me M H σ env fs) : isR env = false ∧ unR env = env := by
  cases h with
  | nil => exact ⟨rfl, rfl⟩
  | cons h1 _ => cases h1 <;> exact ⟨rfl, rfl⟩
theorem SR.notR {K : PySem.W.Frag} {B : Bs} {M H : Hp} {σ : L2.St} {env : Env} {fs : List Addr} (S : SR K B M H σ env fs) : isR env = false := S.sl.notR.1
theorem SR.unR {K : PySem.W.Frag} {B : Bs} {M H : Hp} {σ : L2.St} {env : Env} {fs : List Addr} (S : SR K B M H σ env fs) : SR K B M H σ (unR env) fs := by
  rw [S.sl.notR.2]
  exact S
theorem SR.noR {K : PySem.W.Frag} {B : Bs} {M H : Hp} {σ : L2.St} {env : Env} {fs : List Addr} (S : SR K B M H σ env fs) {P : Prop} (h : isR env = true) : P := by
  rw [S.notR] at h
  cases h
def PostF (K : PySem.W.Frag) (C : Cn) (B : Bs) (D : Ends) (r : Flow) : Prop := match r with
  | .next e => ∀ M H σ fs, SR K B M H σ e fs → D.nx σ H
  | .brk e => ∀ M H σ fs, SR K B M H σ e fs → D.bk σ H
  | .cont e => ∀ M H σ fs, SR K B M H σ e fs → D.ct σ H
  | .ret x e => ∀ M N H v σ fs, SR K B M H σ (unR e) fs → Sub M N → (∀ a ∈ fs, ∃ o, N a = some o ∧ OwnO o) → Gr B.m B.h N H → RV K N v x → (isR e = true → RV K M v x) → D.rt v H
  | .exc q e => ∃ w, C.W = some w ∧ ∀ cls d M H σ fs, SR K B M H σ e fs → C.XR H cls d q → w cls d σ H
  | .bad => False
def EvS (K : PySem.W.Frag) (C : Cn) (t : TS) (m : ST) : Prop := ∀ B M H σ env fs, SR K B M H σ env fs → ∀ D, PostF K C B D (m env) → t D σ H
structure SSt (X : Cx) (C : Cn) (st : Stmt) (t : TS) (m : ST) : Prop where
  ps : PS X st t
  ev : EvS X.K C t m
structure SSs (X : Cx) (C : Cn) (st : List Stmt) (t : TS) (m : ST) : Prop where
  ps : PSs X st t
  ev : EvS X.K C t m
section
variable {K : PySem.W.Frag} {C : Cn} {B : Bs} {M H : Hp} {σ : L2.St} {env : Env} {fs : List Addr} {D : Ends}
/-- an expression at a statement, over all that stands -/
theorem post_full {α : Type} (S : SR K B M H σ env fs) {r : Res α} {f : α → Flow} {P : α → Hp → Hp → Prop} (h : PostF K C B D (r.flow env f))
    (k : ∀ x N' H', r = .ok x → Gr (full M H fs) H N' H' → SR K B (part N' fs) H' σ env fs → PostF K C B D (f x) → P x N' H') : PostR C σ (full M H fs) H r P := by
  cases r with
  | ok x => exact fun N' H' g => k x N' H' rfl g (S.behind g) h
  | exc q =>
    obtain ⟨w, h1, h2⟩ := h
    exact ⟨w, h1, fun cls d N' H' g hx => h2 cls d _ H' σ fs (S.behind g) hx⟩
  | bad => exact h
theorem post_hid {α : Type} (S : SR K B M H σ env fs) {r : Res α} {f : α → Flow} {P : α → Hp → Hp → Prop} (h : PostF K C B D (r.flow env f))
    (k : ∀ x M' H', r = .ok x → Gr M H M' H' → SR K B M' H' σ env fs → PostF K C B D (f x) → P x M' H') : PostR C σ M H r P := by
  cases r with
  | ok x => exact fun M' H' g => k x M' H' rfl g (S.behindH g) h
  | exc q =>
    obtain ⟨w, h1, h2⟩ := h
    exact ⟨w, h1, fun cls d N' H' g hx => h2 cls d _ H' σ fs (S.behindH g) hx⟩
  | bad => exact h
theorem PostF.ite {c : Prop} [Decidable c] {a : Flow} (h : PostF K C B D (if c then a else .bad)) : c ∧ PostF K C B D a := by
  split at h
  · rename_i hc; exact ⟨hc, h⟩
  · exact h.elim
theorem PostF.bind {r : Flow} {f : Env → Flow} (h : PostF K C B D (r.bind f)) (k : ∀ e, PostF K C B D (f e) → ∀ M H σ fs, SR K B M H σ e fs → D.nx σ H) : PostF K C B D r := by
  cases r with
  | next e => exact k e h
  | _ => exact h
theorem es_next : EvS K C tNext sNext := fun B M H σ env fs S D h => h M H σ fs S
theorem es_seq {t u : TS} {m n : ST} (h1 : EvS K C t m) (h2 : EvS K C u n) : EvS K C (tSeq t u) (sSeq m n) := fun B M H σ env fs S D h => by
  refine h1 B M H σ env fs S { D with nx := u D } ?_
  cases hm : m env with
  | next e =>
    intro M' H' σ' fs' S'
    refine h2 B M' H' σ' e fs' S' D ?_
    have : PostF K C B D ((m env).bind n) := h
    rw [hm] at this
    exact this
  | brk e => have : PostF K C B D ((m env).bind n) := h; rw [hm] at this; exact this
  | cont e => have : PostF K C B D ((m env).bind n) := h; rw [hm] at this; exact this
  | ret e => have : PostF K C B D ((m env).bind n) := h; rw [hm] at this; exact this
  | exc q e => have : PostF K C B D ((m env).bind n) := h; rw [hm] at this; exact this
  | bad => have : PostF K C B D ((m env).bind n) := h; rw [hm] at this; exact this
/-- ahead of a statement: the slot's list stays from here on -/
theorem es_freeze {t : TS} {m : ST} {i : Nat} (h1 : EvS K C t m) : EvS K C t (sSeq (sFreeze i) m) := fun B M H σ env fs S D h => by
  have h : PostF K C B D ((sFreeze i env).bind m) := h
  unfold sFreeze at h
  split at h
  · rename_i xs hx
    obtain ⟨M', fs', S'⟩ := S.freeze hx
    exact h1 B M' H σ _ fs' S' D h
  · exact h.elim
theorem es_set {te : TE} {m : EX} {i : Nat} (ha : EvE K C te m) : EvS K C (tAsg te (gName i)) (sSet i m) := fun B M H σ env fs S D h => by
  refine ha M H σ (hide env) S.g.nh S.sl.hid _ (post_hid S h fun x M' H' _ g S' hx v rv => ?_)
  obtain ⟨hi, hx⟩ := PostF.ite hx
  obtain ⟨fs', S2⟩ := S'.putV (i := i) rv
  exact hx M' H' _ fs' S2
theorem es_setN {te : TE} {m : EX} {i : Nat} (ha : EvE K C te m) : EvS K C (tAsg te (gName i)) (sSetN i m) := fun B M H σ env fs S D h => by
  refine ha _ H σ env (full_sub S) S.sv _ (post_full S h fun x N' H' _ g S' hx v rv => ?_)
  obtain ⟨⟨hi, hn⟩, hx⟩ := PostF.ite hx
  obtain ⟨fs', S2⟩ := S'.putV (i := i) (RV.strip (S.kindsN g) x rv hn)
  exact hx _ H' _ fs' S2
theorem es_put {te : TE} {m : EX} {g : TG} {put : Put} {is : List Nat} (hp : EvP K g put is) (hnx : ∀ x env, NX (put x env)) (ha : EvE K C te m) : EvS K C (tAsg te g) (sPut put m) := fun B M H σ env fs S D h => by
  refine ha M H σ (hide env) S.g.nh S.sl.hid _ (post_hid S h fun x M' H' _ g S' hx v rv => ?_)
  cases hq : put x env with
  | bad => rw [hq] at hx; exact hx.elim
  | exc q => exact absurd hq (hnx x env q)
  | ok e =>
    rw [hq] at hx
    refine hp M' H' σ env v x e S'.g.nh rv hq _ fun l hl he => ?_
    obtain ⟨fs', S2⟩ := S'.sets (l := l) fun t ht => (hl t ht).2
    rw [← he] at S2
    exact hx M' H' _ fs' S2
theorem es_own {te : TE} {m : EX} {i : Nat} (ha : EvF K C te m) : EvS K C (tAsg te (gName i)) (sOwn i m) := fun B M H σ env fs S D h => by
  refine ha M H σ (hide env) S.g.nh S.sl.hid _ (post_hid S h fun x M' H' _ g S' hx => ?_)
  cases x with
  | lst xs =>
    obtain ⟨hi, hx⟩ := PostF.ite hx
    refine ⟨xs, rfl, fun p vs hp rvs => ?_⟩
    obtain ⟨fs', S2⟩ := S'.own hi hp rvs
    exact hx M' _ _ fs' S2
  | _ => exact hx.elim
theorem es_ownN {te : TE} {m : EX} {i : Nat} (ha : EvF K C te m) : EvS K C (tAsg te (gName i)) (sOwnN i m) := fun B M H σ env fs S D h => by
  refine ha _ H σ env (full_sub S) S.sv _ (post_full S h fun x N' H' _ g S' hx => ?_)
  cases x with
  | lst xs =>
    obtain ⟨⟨hi, hn⟩, hx⟩ := PostF.ite hx
    refine ⟨xs, rfl, fun p vs hp rvs => ?_⟩
    obtain ⟨fs', S2⟩ := S'.own hi hp (RVs.strip (S.kindsN g) xs rvs hn)
    exact hx _ _ _ fs' S2
  | _ => exact hx.elim
theorem es_drop {te : TE} {m : EX} (ha : EvE K C te m) : EvS K C (tDrop te) (sDrop m) := fun B M H σ env fs S D h => by
  refine ha _ H σ env (full_sub S) S.sv _ (post_full S h fun x N' H' _ g S' hx v rv => ?_)
  exact hx _ H' σ fs S'
theorem es_append {te : TE} {m : EX} {i : Nat} (ha : EvE K C te m) : EvS K C (tDrop (tBM K "list" rAppend (tVar i) (tCons te tNil))) (sAppend i m) := fun B M H σ env fs S D h => by
  unfold sAppend at h
  split at h
  · rename_i xs hx
    obtain ⟨a, vs, h1, h2, h3, _⟩ := S.write hx
    refine ⟨.ref a, h1, .inl ⟨rfl, vs, SqL.of h2⟩, ?_⟩
    refine ha M H σ (hide env) S.g.nh S.sl.hid _ (post_hid S h fun x M' H' _ g S' hq v rv => ?_)
    obtain ⟨hl, hq⟩ := PostF.ite hq
    obtain ⟨a', vs', k1, k2, k3, k4⟩ := S'.write hx
    rw [h1] at k1
    cases k1
    refine ⟨a, vs', v, rfl, rfl, k2, by rw [line_eq, k3.length]; exact hl, ?_⟩
    exact hq M' _ σ fs (k4 (k3.append (.cons rv .nil)))
  · exact h.elim
theorem RVs.set {N : Hp} {v : V} {x : Val} (h : RV K N v x) : ∀ {vs : List V} {xs : List Val} {j : Nat}, RVs K N vs xs → RVs K N (vs.set j v) (xs.set j x)
  | _, _, _, .nil => .nil
  | _, _, 0, .cons _ r => .cons h r
  | _, _, _ + 1, .cons h1 r => .cons h1 (RVs.set h r)
theorem ixN_eq (n : Nat) (k : Int) : ixN n k = ixNat n k := rfl
theorem item_put {ti : TE} {b : EX} {i : Nat} {v : V} {x : Val} {xs : List Val} (hx : env[i]? = some (.oL xs)) (hb : EvE K C ti b) (S : SR K B M H σ env fs) (r : RV K M v x) (h : PostF K C B D ((b env).flow env fun k => itemPut i env x k)) : gSub (tVar i) ti rSetL v σ H D.nx := by
  obtain ⟨a, vs, h1, h2, h3, _⟩ := S.write hx
  refine ⟨.ref a, h1, ?_⟩
  refine hb _ H σ env (full_sub S) S.sv _ (post_full S h fun k N' H' _ g S' hk w rw' => ?_)
  unfold itemPut at hk
  rw [hx] at hk
  cases k with
  | int k' =>
    have hk : PostF K C B D (match ixNat xs.length k' with
      | some j => .next (env.set i (.oL (xs.set j x)))
      | none => .bad) := hk
    cases hj : ixNat xs.length k' with
    | none => rw [hj] at hk; exact hk.elim
    | some j =>
      rw [hj] at hk
      obtain ⟨a', vs', k1, k2, k3, k4⟩ := S'.write hx
      rw [h1] at k1
      cases k1
      cases rw'
      refine ⟨a, vs', k', j, rfl, rfl, k2, by rw [ixN_eq, k3.length]; exact hj, ?_⟩
      have e1 : Sub M (part N' fs) := fun b o q => by
        unfold part
        rw [if_neg fun h => by rw [(S.fr b h).1] at q; cases q]
        exact g.nn b o (sub_full S b o q)
      exact hk _ _ σ fs (k4 (RVs.set (r.mono e1) k3))
  | _ => exact hk.elim
theorem es_item {te ti : TE} {m b : EX} {i : Nat} (ha : EvE K C te m) (hb : EvE K C ti b) : EvS K C (tAsg te (gSub (tVar i) ti rSetL)) (sOn i (sItem i b m)) := fun B M H σ env fs S D h => by
  unfold sOn at h
  split at h
  · rename_i xs hx
    refine ha M H σ (hide env) S.g.nh S.sl.hid _ (post_hid S h fun x M' H' _ g S' hq v rv => ?_)
    exact item_put hx hb S' rv hq
  · exact h.elim
theorem es_aug {te : TE} {m : EX} {i : Nat} {r : R2} {f : Val → Val → Res Val} (hr : OpS K r f) (n : ∀ x y, NX (f x y)) (ha : EvE K C te m) : EvS K C (tAug i te r) (sAug f i m) := fun B M H σ env fs S D h => by
  unfold sAug at h
  split at h
  · rename_i x hx
    obtain ⟨v, h1, h2⟩ := S.sv.sh_at hx
    refine ⟨v, h1, ?_⟩
    refine ha _ H σ env (full_sub S) S.sv _ (post_full S h fun y N' H' _ g S' hq w rw' => ?_)
    cases hz : f x y with
    | bad => rw [hz] at hq; exact hq.elim
    | exc q => exact absurd hz (n x y q)
    | ok z =>
      rw [hz] at hq
      refine hr N' H' g.nh v w x y (h2.mono g.nn) rw' _ ⟨z, hz, fun N2 H2 g2 u ru => ?_⟩
      obtain ⟨hn, hq⟩ := PostF.ite hq
      have g3 := g.trans g2
      obtain ⟨fs', S2⟩ := (S.behind g3).putV (i := i) (RV.strip (S.kindsN g3) z ru hn)
      exact hq _ H2 _ fs' S2
  · exact h.elim
theorem es_if {tt : TT} {mt : EB} {t u : TS} {m n : ST} (hc : EvB K C tt mt) (h1 : EvS K C t m) (h2 : EvS K C u n) : EvS K C (tIfS tt t u) (sIf mt m n) := fun B M H σ env fs S D h => by
  refine hc _ H σ env (full_sub S) S.sv _ (post_full S h fun b N' H' _ g S' hq => ?_)
  cases b with
  | true => exact h1 B _ H' σ env fs S' D hq
  | false => exact h2 B _ H' σ env fs S' D hq
theorem es_ret {te : TE} {m : EX} (ha : EvE K C te m) : EvS K C (tRet te) (sRet m) := fun B M H σ env fs S D h => by
  refine ha _ H σ env (full_sub S) S.sv _ (post_full S h fun x N' H' _ g S' hq v rv => ?_)
  refine hq (part N' fs) N' H' v σ fs S'.unR (fun a o q => ?_) (S.kindsN g) ((full_gr S).trans g) rv fun z => S'.noR z
  unfold part at q
  split at q
  · cases q
  · exact q
theorem es_while {tt : TT} {mt : EB} {t : TS} {m : ST} {n : Nat} (hc : EvB K C tt mt) (h1 : EvS K C t m) : EvS K C (tWhile tt t) (sWhile n mt m) := fun B M H σ env fs S D h => by
  refine ⟨fun k σ H => ∃ M env fs, SR K B M H σ env fs ∧ PostF K C B D (whileL mt m k env), ⟨n, M, env, fs, S, h⟩, ?_⟩
  rintro k σ H ⟨M, env, fs, S, h⟩
  cases k with
  | zero => exact h.elim
  | succ k =>
    refine hc _ H σ env (full_sub S) S.sv _ (post_full S h fun b N' H' _ g S' hq => ?_)
    cases b with
    | false => exact hq _ H' σ fs S'
    | true =>
      refine ⟨fun σ' H' => ∃ M env fs, SR K B M H' σ' env fs ∧ PostF K C B D (whileL mt m k env), fun σ' H' w => ⟨k, Nat.lt_succ_self _, w⟩, ?_⟩
      refine h1 B _ H' σ env fs S' _ ?_
      have hq' : PostF K C B D (match m env with
        | .next e' => whileL mt m k e'
        | .cont e' => whileL mt m k e'
        | .brk e' => .next e'
        | .ret v e' => .ret v e'
        | .exc q e' => .exc q e'
        | .bad => .bad) := hq
      cases hm : m env with
      | next e => rw [hm] at hq'; exact fun M' H' σ' fs' S' => ⟨M', e, fs', S', hq'⟩
      | cont e => rw [hm] at hq'; exact fun M' H' σ' fs' S' => ⟨M', e, fs', S', hq'⟩
      | brk e => rw [hm] at hq'; exact hq'
      | ret v => rw [hm] at hq'; exact hq'
      | exc q e => rw [hm] at hq'; exact hq'
      | bad => rw [hm] at hq'; exact hq'
theorem es_for {wi : TI} {it : EI} {g : TG} {put : Put} {is : List Nat} {t : TS} {m : ST} (hi : EvI K C wi it) (hp : EvP K g put is) (h1 : EvS K C t m) : EvS K C (tFor wi g t) (sFor it put m) := fun B M H σ env fs S D h => by
  refine hi M H σ (hide env) S.g.nh S.sl.hid _ (post_hid S h fun xs M1 H1 _ g1 S1 hq J hJ => ?_)
  obtain ⟨G, Y, w, hG, hY⟩ := hJ
  refine for_it w (fun i σ H => ∃ M env fs, Sub M1 M ∧ SR K B M H σ env fs ∧ PostF K C B D (forL put m (xs.drop i) env)) ⟨M1, env, fs, Same.refl _, S1, by rw [List.drop_zero]; exact hq⟩ ?_ ?_ ?_
  · rintro i σ H hi ⟨M, env, fs, e, S, _⟩
    exact hG H (S.g.nh.low e)
  · rintro i v σ Hi Hx hi ⟨M, env, fs, e, S, hf⟩ y
    obtain ⟨Nx, x, gx, hx, rx⟩ := hY i Hi v Hx hi (S.g.nh.low e) y
    rw [List.drop_eq_getElem_cons hi] at hf
    have hxe : xs[i] = x := by rw [List.getElem?_eq_getElem hi] at hx; exact Option.some.inj hx
    rw [hxe] at hf
    -- the frozen part: with what the item made
    let Nu : Hp := fun a => if Nx a = none then M a else Nx a
    have gu : Gr M Hi Nu Hx := gx.join S.g.nh e
    have u1 : Sub Nx Nu := fun a o q => by show (if Nx a = none then M a else Nx a) = some o; rw [if_neg (by rw [q]; simp)]; exact q
    have S2 := S.behindH gu
    have hf' : PostF K C B D ((put x env).nx.flow env fun e => match m e with
        | .next e' => forL put m (xs.drop (i + 1)) e'
        | .cont e' => forL put m (xs.drop (i + 1)) e'
        | .brk e' => .next e'
        | .ret v e' => .ret v e'
        | .exc q e' => .exc q e'
        | .bad => .bad) := hf
    cases hput : put x env with
    | bad => rw [hput] at hf'; exact hf'.elim
    | exc q => rw [hput] at hf'; exact hf'.elim
    | ok e1 =>
      rw [hput] at hf'
      refine hp Nu Hx σ env v x e1 S2.g.nh (rx.mono u1) hput _ fun l hl he => ?_
      obtain ⟨fs', S3⟩ := S2.sets (l := l) fun t ht => (hl t ht).2
      rw [← he] at S3
      have eu : Sub M1 Nu := e.trans gu.nn
      refine h1 { B with l := M1 } Nu Hx _ e1 fs' (S3.at_low eu) _ ?_
      have hf2 : PostF K C B D (match m e1 with
        | .next e' => forL put m (xs.drop (i + 1)) e'
        | .cont e' => forL put m (xs.drop (i + 1)) e'
        | .brk e' => .next e'
        | .ret v e' => .ret v e'
        | .exc q e' => .exc q e'
        | .bad => .bad) := hf'
      cases hm : m e1 with
      | next e => rw [hm] at hf2; exact fun M' H' σ' fs' S' => ⟨M', e, fs', S'.lo, S'.of_low S1.lo, hf2⟩
      | cont e => rw [hm] at hf2; exact fun M' H' σ' fs' S' => ⟨M', e, fs', S'.lo, S'.of_low S1.lo, hf2⟩
      | brk e => rw [hm] at hf2; exact fun M' H' σ' fs' S' => hf2 M' H' σ' fs' (S'.of_low S1.lo)
      | ret v ev => rw [hm] at hf2; exact fun M2 N2 H2 v2 σ2 fs2 S2 sb hk g rv hr => hf2 M2 N2 H2 v2 σ2 fs2 (S2.of_low S1.lo) sb hk g rv hr
      | exc q e =>
        rw [hm] at hf2
        obtain ⟨w, q1, q2⟩ := hf2
        exact ⟨w, q1, fun cls d M H σ fs S' hx => q2 cls d M H σ fs (S'.of_low S1.lo) hx⟩
      | bad => rw [hm] at hf2; exact hf2.elim
  · rintro σ H ⟨M, env, fs, e, S, hf⟩
    rw [List.drop_length] at hf
    exact hf M H σ fs S
end
end Vm
namespace Vm
open PySem L2 PyProof.Rows
variable [TabsOf]
/-- a dict that is made -/
def EvFD (K : PySem.W.Frag) (C : Cn) (te : TE) (m : EX) : Prop := ∀ N H σ env, Inn N H → SV K N σ env → ∀ Q : VK, PostR C σ N H (m env) (fun x N' H' => ∃ xs, x = .dct xs ∧ ∀ p vs, H' p = none → RKs K N' vs xs → Q (.ref p) (upd H' p (.dK vs))) → te σ H Q
end Vm
namespace Vm
open PySem L2 PyProof.Rows
variable [TabsOf]
theorem RV.tru {K : PySem.W.Frag} {N H : Hp} (e : Inn N H) {v : V} {x : Val} {k : Bool} (r : RV K N v x) (h : truth x = .ok k) : TruV K v H k := by
  cases r with
  | non => cases h; rfl
  | bl b => cases h; rfl
  | int i => cases h; rfl
  | str y =>
    simp only [truth] at h
    split at h
    · rename_i hl
      cases h
      refine ⟨len_line hl, ?_⟩
      show (y.length != 0) = ((y.length : Int) != 0)
      rw [Bool.eq_iff_iff]
      simp
    · cases h
  | tup h1 r =>
    cases h
    refine .inr (.inl ⟨_, st_mono e.sub h1, ?_⟩)
    cases r <;> rfl
  | lst h1 r =>
    cases h
    refine .inl ⟨_, sq_mono e.sub h1, ?_⟩
    cases r <;> rfl
  | dct _ _ => cases h
  | dck _ _ => cases h
  | dcT _ _ => cases h
  | ob _ _ => cases h
theorem nx_truth (x : Val) : NX (truth x) := by
  unfold truth
  split <;> first | exact nx_ok | exact nx_bad | exact nx_ite nx_ok nx_bad
abbrev tTru (K : PySem.W.Frag) (ta : TE) : TT := fun σ H Q => ta σ H fun x H' => ∃ k, TruV K x H' k ∧ Q k H'
theorem eb_truth {K : PySem.W.Frag} {C : Cn} {ta : TE} {ma : EX} (ha : EvE K C ta ma) : EvB K C (tTru K ta) (bTruth ma) := fun N H σ env e s Q h => by
  refine ha N H σ env e s _ (PostR.imp (PostR.bind h) fun x N1 H1 g1 h1 v rv => ?_)
  obtain ⟨k, hk, h2⟩ := h1.val (nx_truth x)
  exact ⟨k, rv.tru g1.nh hk, h2 N1 H1 (Gr.refl g1.nh)⟩
theorem units65 {k : Nat} {A : Around} (r : Room k A) : A.units + 65 < cLine := by have := r.un; omega
/-- what a body's context gives -/
structure Fr (X : Cx) (C : Cn) : Prop where
  hu : X.A.units + 65 < cLine
  ca : X.calm = true
  le : Lets X C
  ow : PassesOwn (model X.prog X.w) X.A X.env X.xe
theorem Fr.blk {X : Cx} {C : Cn} (F : Fr X C) (s : Shared) (H : Hp) (scope : Scope) (cenv : PySem.Env) (fp : List Addr) : Fr (X.blk s H scope cenv fp) (C0 C) := ⟨F.hu, F.ca, Lets.no, PassesOwn.never⟩
section
variable {X : Cx} {C : Cn} {a b c : Expr} {ta tb tc : TE} {ma mb mc : EX} {pos p : Pos}
theorem se_var (i : Nat) {x : Str} (hN : X.N[i]? = some x := by rfl) (hv : Vis X.env.scope x := by first | exact Or.inl rfl | exact Or.inr (Or.inl rfl) | exact Or.inr (Or.inr rfl)) (hd : (x == ("__debug__" : Str)) = false := by decide)
    (hcd : (x == ("__classdict__" : Str)) = false := by decide) : SE X C (.Name x pos) (tVar i) (eVar i) := ⟨pv i hN hv hd hcd, ev_var⟩
theorem se_int {i : Int} {j} : SE X C (.Constant (.int i) j pos) (tC (.int i)) (eC (.int i)) := ⟨pe_int, ev_c fun _ => .int i⟩
theorem se_bl {b : Bool} {j} : SE X C (.Constant (.bool b) j pos) (tC (.bl b)) (eC (.bl b)) := ⟨pe_bl, ev_c fun _ => .bl b⟩
theorem se_non {j} : SE X C (.Constant .none j pos) (tC .non) (eC .non) := ⟨pe_non, ev_c fun _ => .non⟩
theorem se_str {x : Str} {j} : SE X C (.Constant (.str x) j pos) (tC (.str x)) (eC (.str x)) := ⟨pe_str, ev_c fun _ => .str x⟩
/-- an int of the module -/
theorem se_gi {x : Str} {i : Int} (hm : ∃ t, X.mg x = some (.int i t)) (hg : Gl X x := by rfl) (hd : (x == ("__debug__" : Str)) = false := by decide) : SE X C (.Name x pos) (tC (.int i)) (eC (.int i)) := by
  obtain ⟨t, hm⟩ := hm
  exact ⟨pe_glob hg hm ⟨t, rfl⟩ hd, ev_c fun _ => .int i⟩
theorem se_add (ha : SE X C a ta ma) (hb : SE X C b tb mb) : SE X C (.BinOp a .Add b pos) (tOp (rAddV X.K) ta tb) (e2 vAdd ma mb) := ⟨pe_op op_addV ha.pe hb.pe, ev_op ops_add nx_add ha.ev hb.ev⟩
theorem se_sub (ha : SE X C a ta ma) (hb : SE X C b tb mb) : SE X C (.BinOp a .Sub b pos) (tOp (rI0 fun i j => .int (i - j)) ta tb) (e2 vSub ma mb) := ⟨pe_op op_sub ha.pe hb.pe, ev_op ops_sub nx_sub ha.ev hb.ev⟩
theorem se_mul (ha : SE X C a ta ma) (hb : SE X C b tb mb) : SE X C (.BinOp a .Mult b pos) (tOp rMulV ta tb) (e2 vMul ma mb) := ⟨pe_op op_mul ha.pe hb.pe, ev_op ops_mul nx_mul ha.ev hb.ev⟩
theorem se_div (ha : SE X C a ta ma) (hb : SE X C b tb mb) : SE X C (.BinOp a .FloorDiv b pos) (tOp rDivV ta tb) (e2 vDiv ma mb) := ⟨pe_op op_fdivW ha.pe hb.pe, ev_op ops_div nx_div ha.ev hb.ev⟩
theorem se_mod (ha : SE X C a ta ma) (hb : SE X C b tb mb) : SE X C (.BinOp a .Mod b pos) (tOp rModV ta tb) (e2 vMod ma mb) := ⟨pe_op op_mod ha.pe hb.pe, ev_op ops_mod nx_mod ha.ev hb.ev⟩
theorem se_pow (ha : SE X C a ta ma) (hb : SE X C b tb mb) : SE X C (.BinOp a .Pow b pos) (tOp rPowV ta tb) (e2 vPow ma mb) := ⟨pe_op op_pow ha.pe hb.pe, ev_op ops_pow nx_pow ha.ev hb.ev⟩
theorem se_neg (ha : SE X C a ta ma) : SE X C (.UnaryOp .USub a pos) (tUn (rU fun i => .int (-i)) ta) (e1 vNeg ma) := ⟨pe_un un_neg ha.pe, ev_un uns_neg nx_neg ha.ev⟩
theorem se_not (ha : SE X C a ta ma) : SE X C (.UnaryOp .Not a pos) (tNotV ta) (eNot ma) := ⟨pe_not ha.pe, ev_not ha.ev⟩
/-- a comparison, as it stands in a Compare -/
structure CmpS (X : Cx) (op : CmpOp) (r : R2) (f : Val → Val → Res Val) : Prop where
  o : OpR X (compareOp op) r
  s : OpS X.K r f
  n : ∀ x y, NX (f x y)
theorem c_lt : CmpS X .Lt (rI0 fun i j => .bl (decide (i < j))) vLt := ⟨op_lt, ops_lt, nx_lt⟩
theorem c_le : CmpS X .LtE (rI0 fun i j => .bl (decide (i ≤ j))) vLe := ⟨op_le, ops_le, nx_le⟩
theorem c_gt : CmpS X .Gt (rI0 fun i j => .bl (decide (j < i))) vGt := ⟨op_gt, ops_gt, nx_gt⟩
theorem c_ge : CmpS X .GtE (rI0 fun i j => .bl (decide (j ≤ i))) vGe := ⟨op_ge, ops_ge, nx_ge⟩
theorem c_eq (F : Fr X C) : CmpS X .Eq (rEqV X.K) vEq := ⟨op_eqV (by have := F.hu; omega), ops_eq, nx_eq⟩
theorem c_ne (F : Fr X C) : CmpS X .NotEq (rNeV X.K) vNe := ⟨op_neV (by have := F.hu; omega), ops_ne, nx_ne⟩
theorem se_cmp {op : CmpOp} {r : R2} {f : Val → Val → Res Val} (o : CmpS X op r f) (ha : SE X C a ta ma) (hb : SE X C b tb mb) (hm : behindInMarks op b = false := by first | exact nomark _ | rfl) : SE X C (.Compare a [op] [b] pos) (tOp r ta tb) (e2 f ma mb) := ⟨pe_cmpR o.o ha.pe hb.pe hm, ev_op o.s o.n ha.ev hb.ev⟩
variable {tt tu : TT} {mt mu : EB} {rest : List Expr}
theorem se_if (ht : SB X C c tt mt) (ha : SE X C a ta ma) (hb : SE X C b tb mb) : SE X C (.IfExp c a b pos) (tIf tt ta tb) (eIf mt ma mb) := ⟨pe_ifExp ht.pe ha.pe hb.pe, ev_if ht.ev ha.ev hb.ev⟩
theorem se_one {op} (ha : SE X C a ta ma) : SE X C (.BoolOp op [a] pos) ta ma := ⟨pe_one ha.pe, ha.ev⟩
theorem se_and (ha : SE X C a ta ma) (hb : SE X C (.BoolOp .And (b :: rest) pos) tb mb) : SE X C (.BoolOp .And (a :: b :: rest) pos) (tAndV ta tb) (eAnd ma mb) := ⟨pe_and ha.pe hb.pe, ev_and ha.ev hb.ev⟩
theorem Fr.u1 {X : Cx} {C : Cn} (F : Fr X C) : X.A.units + 1 < cLine := Nat.lt_of_le_of_lt (Nat.add_le_add_left (by decide : 1 ≤ 65) _) F.hu
theorem se_ix (F : Fr X C) (ha : SE X C a ta ma) (hb : SE X C b tb mb) (hs : PlainIx b := by intro _ _; rfl) : SE X C (.Subscript a b pos) (tOp (rIxV X.K) ta tb) (e2 vIx ma mb) := ⟨pe_ix (ix_V F.u1) ha.pe hb.pe hs, ev_op ops_ixV nx_ixV ha.ev hb.ev⟩
structure SO' (X : Cx) (C : Cn) (e : Option Expr) (te : TO) (m : Option EX) : Prop where
  pe : PO X e te
  ev : EvO X.K C te m
theorem so_none : SO' X C none tNoPart none := ⟨po_none, eo_none⟩
theorem so_some (ha : SE X C a ta ma) : SO' X C (some a) (tPart ta) (some ma) := ⟨po_some ha.pe, eo_some ha.ev⟩
theorem se_cut {lo hi : Option Expr} {tl th : TO} {ml mh : Option EX} {p2 : Pos} (ha : SE X C a ta ma) (hl : SO' X C lo tl ml) (hh : SO' X C hi th mh) : SE X C (.Subscript a (.Slice lo hi none p2) pos) (tSl (rSlV X.K) ta tl th) (eCut ma ml mh) :=
  ⟨pe_slice sl_V ha.pe hl.pe hh.pe, ev_cut ha.ev hl.ev hh.ev⟩
variable {es : List Expr} {t : TA} {m : EL}
theorem sa_nil : SA X C [] tNil aNil := ⟨pa_nil, ea_nil⟩
theorem sa_cons (ha : SE X C a ta ma) (hr : SA X C es t m) (hs : starEach (a :: es) X.env = (false, eval a X.env) :: starEach es X.env := by rfl) : SA X C (a :: es) (tCons ta t) (aCons ma m) := ⟨pa_cons ha.pe hr.pe hs, ea_cons ha.ev hr.ev⟩
theorem se_tup {x1} (h : SA X C es t m) : SE X C (.Tuple es x1 pos) (tTup t) (eArgs vTup m) := ⟨pe_tup h.pe, ev_tup h.ev⟩
theorem sf_lst (h : SA X C es t m) : SF X C (.List es pos) (tLst t) (eArgs vLst m) := ⟨pe_lst h.pe, ef_lst h.ev⟩
theorem lst_lst (env : Env) (x : Val) (h : eArgs vLst m env = .ok x) : ∃ xs, x = .lst xs := by
  unfold eArgs at h
  cases hm : m env with
  | ok ys =>
    rw [hm] at h
    simp only [Res.bind_ok, vLst] at h
    split at h
    · cases h; exact ⟨_, rfl⟩
    · cases h
  | exc e => rw [hm] at h; cases h
  | bad => rw [hm] at h; cases h
theorem se_lst (h : SA X C es t m) : SE X C (.List es pos) (tLst t) (eArgs vLst m) := ⟨pe_lst h.pe, EvF.e lst_lst (ef_lst h.ev)⟩
theorem se_len (hm : X.mg "len" = none) (h : SA X C (a :: es) t m) (hg : Gl X "len" := by rfl) (he : starEach (a :: es) X.env = (false, eval a X.env) :: starEach es X.env := by rfl) (hpl : (backTo pos (starEach es X.env)).any (·.1) = false := by rfl) :
    SE X C (.Call (.Name "len" p) (a :: es) [] pos) (tCB (rLenC X.K) t) (eArgs vLen m) := ⟨pe_callB call_lenC hg hm boot_len h.pe (by decide) (by decide) he hpl, ev_cb ca_len nx_len h.ev⟩
theorem se_max (F : Fr X C) (hm : X.mg "max" = none) (h : SA X C (a :: es) t m) (hg : Gl X "max" := by rfl) (he : starEach (a :: es) X.env = (false, eval a X.env) :: starEach es X.env := by rfl) (hpl : (backTo pos (starEach es X.env)).any (·.1) = false := by rfl) :
    SE X C (.Call (.Name "max" p) (a :: es) [] pos) (tCB (rMaxC X.K) t) (eArgs vMax m) := ⟨pe_callB (call_maxC F.ca) hg hm (by decide +kernel) h.pe (by decide) (by decide) he hpl, ev_cb ca_max nx_max h.ev⟩
theorem se_min (F : Fr X C) (hm : X.mg "min" = none) (h : SA X C (a :: es) t m) (hg : Gl X "min" := by rfl) (he : starEach (a :: es) X.env = (false, eval a X.env) :: starEach es X.env := by rfl) (hpl : (backTo pos (starEach es X.env)).any (·.1) = false := by rfl) :
    SE X C (.Call (.Name "min" p) (a :: es) [] pos) (tCB (rMinC X.K) t) (eArgs vMin m) := ⟨pe_callB (call_minC F.ca) hg hm (by decide +kernel) h.pe (by decide) (by decide) he hpl, ev_cb ca_min nx_min h.ev⟩
theorem se_intOf (hm : X.mg "int" = none) (h : SA X C (a :: es) t m) (hg : Gl X "int" := by rfl) (he : starEach (a :: es) X.env = (false, eval a X.env) :: starEach es X.env := by rfl) (hpl : (backTo pos (starEach es X.env)).any (·.1) = false := by rfl) :
    SE X C (.Call (.Name "int" p) (a :: es) [] pos) (tCB rIntC t) (eArgs vInt m) := ⟨pe_callTy call_intC hg hm PySem.Pv.boot_int h.pe (by decide) (by decide) he hpl, ev_cb ca_int nx_int h.ev⟩
theorem se_isi {u : Ty} {x : Str} {p2 : Pos} (hm : X.mg "isinstance" = none) (hx : X.mg x = none) (hv : bootBuiltins x = some (.type u.nm)) (ha : SE X C a ta ma) (hg : Gl X "isinstance" := by rfl) (hgx : Gl X x := by rfl) (hn : x ≠ "__name__" := by decide) (hd : (x == ("__debug__" : Str)) = false := by decide)
    (he : starEach [a, .Name x p2] X.env = (false, eval a X.env) :: starEach [.Name x p2] X.env := by rfl) (he2 : starEach [.Name x p2] X.env = (false, eval (.Name x p2) X.env) :: starEach [] X.env := by rfl) (hpl : (backTo pos (starEach [.Name x p2] X.env)).any (·.1) = false := by rfl) :
    SE X C (.Call (.Name "isinstance" p) [a, .Name x p2] [] pos) (tCB (rIsi X.K) (tCons ta (tCons (tC (.ty u.nm)) tNil))) (e1 (vIsi u) ma) :=
  ⟨pe_callB call_isi hg hm boot_isinstance (pa_cons ha.pe (pa_cons (pe_bltn (v := .ty u.nm) hgx hx hv rfl hn hd) pa_nil he2) he) (by decide) (by decide) he hpl, ev_isi ha.ev⟩
theorem bi_int : bootBuiltins "int" = some (.type Ty.int.nm) := by decide +kernel
theorem bi_bool : bootBuiltins "bool" = some (.type Ty.bool.nm) := by decide +kernel
theorem sb_cmp {op : CmpOp} {r : R2} {f : Val → Val → Res Val} (o : CmpS X op r f) (ha : SE X C a ta ma) (hb : SE X C b tb mb) (hm : behindInMarks op b = false := by first | exact nomark _ | rfl) : SB X C (.Compare a [op] [b] pos) (tTest (tOp r ta tb)) (bVal (e2 f ma mb)) :=
  ⟨pt_cmpR o.o ha.pe hb.pe hm, eb_test (ev_op o.s o.n ha.ev hb.ev)⟩
theorem sb_chain {op op' : CmpOp} {r r' : R2} {f f' : Val → Val → Res Val} (o : CmpS X op r f) (o' : CmpS X op' r' f') (ha : SE X C a ta ma) (hb : SE X C b tb mb) (hc : SE X C c tc mc) (hm : lastMarks [op, op'] [b, c] = false := by with_unfolding_all rfl) :
    SB X C (.Compare a [op, op'] [b, c] pos) (tTest (tChain r r' ta tb tc)) (bVal (eChain f f' ma mb mc)) := ⟨pt_chain o.o o'.o ha.pe hb.pe hc.pe hm, eb_test (ev_chain o.s o'.s o.n o'.n ha.ev hb.ev hc.ev)⟩
theorem sb_not (ha : SB X C a tt mt) : SB X C (.UnaryOp .Not a pos) (tNot tt) (bNot mt) := ⟨pt_not ha.pe, eb_not ha.ev⟩
theorem sb_tru (ha : SE X C a ta ma) (he : ∀ whole, isTrue a X.env whole = (do let v ← whole; standAt a.pos; holding [v] (truthy v)) := by intro _; rfl) : SB X C a (tTru X.K ta) (bTruth ma) := ⟨pt_truth ha.pe he, eb_truth ha.ev⟩
theorem sw_and1 (ha : SB X C a tt mt) : SW X C (.BoolOp .And [a] pos) tt mt := ⟨pw_and1 ha.pe, ha.ev⟩
theorem sw_or1 (ha : SB X C a tt mt) : SW X C (.BoolOp .Or [a] pos) tt mt := ⟨pw_or1 ha.pe, ha.ev⟩
theorem sw_and (ha : SB X C a tt mt) (hb : SW X C (.BoolOp .And (b :: rest) pos) tu mu) : SW X C (.BoolOp .And (a :: b :: rest) pos) (tAnd tt tu) (bAnd mt mu) := ⟨pw_and ha.pe hb.pe, eb_and ha.ev hb.ev⟩
theorem sw_or (ha : SB X C a tt mt) (hb : SW X C (.BoolOp .Or (b :: rest) pos) tu mu) : SW X C (.BoolOp .Or (a :: b :: rest) pos) (tOr tt tu) (bOr mt mu) := ⟨pw_or ha.pe hb.pe, eb_or ha.ev hb.ev⟩
theorem sb_w (h : SW X C a tt mt) : SB X C a tt mt := ⟨h.pe.pt, h.ev⟩
structure STg (X : Cx) (tg : Expr) (g : TG) (put : Put) (is : List Nat) : Prop where
  pe : PG X tg g
  ev : EvP X.K g put is
theorem sg_name (i : Nat) {x : Str} (hN : X.N.Nodup := by assumption) (hi : X.N[i]? = some x := by rfl) (hx : Loc X.env.scope x := by first | exact .inl rfl | exact .inr rfl) (hf : X.fn x = true ∨ X.env.scope.names.lookup x = some .local := by first | exact .inr rfl | exact .inl rfl) : STg X (.Name x pos) (gName i) (pName i) [i] :=
  ⟨pg_name hN hi hx hf, ep_name⟩
structure STs (X : Cx) (tgs : List Expr) (g : TGs) (is : List Nat) : Prop where
  pe : PGs X tgs g
  ev : EvPs X.K g is
theorem sgs_nil : STs X [] gNil [] := ⟨pgs_nil, eps_nil⟩
theorem sgs_cons {i : Nat} {g : TGs} {is : List Nat} (h1 : STg X a (gName i) (pName i) [i]) (h2 : STs X es g is) (hs : (assignEach (a :: es) X.env).map (·.2) = assign a X.env :: (assignEach es X.env).map (·.2) := by rfl) : STs X (a :: es) (gCons (gName i) g) (i :: is) :=
  ⟨pgs_cons h1.pe h2.pe hs, eps_cons h2.ev⟩
theorem sg_tup {k : Nat} {g : TGs} {is : List Nat} (F : Fr X C) (h : STs X es g is) (hn : (assignEach es X.env).length = is.length := by rfl) (hst : (assignEach es X.env).findIdx? (·.1) = none := by rfl) : STg X (.Tuple es k pos) (gTup X.K is.length g) (pTup is) is := ⟨pg_tup F.ca h.pe hn hst, ep_tup h.ev⟩
theorem si_seq {tg : Expr} (ha : SE X C a ta ma) : SI X C tg a (iSeqT X.K ta) (iSeq ma) := ⟨pi_seqT ha.pe, ei_seq ha.ev⟩
theorem si_rng1 {tg : Expr} (hm : X.mg "range" = none) (ha : SE X C a ta ma) (hg : Gl X "range" := by rfl) (hs : starEach [a] X.env = [(false, eval a X.env)] := by rfl) : SI X C tg (.Call (.Name "range" p) [a] [] pos) (iRng1 (tCons ta tNil)) (iRange1 ma) := ⟨pi_range1 hg hm (pa_cons ha.pe pa_nil hs) hs, ei_range1 ha.ev⟩
end
end Vm
namespace Vm
open PySem L2 PyProof.Rows
variable [TabsOf]
section
variable {X : Cx} {C : Cn} {a b c : Expr} {ta tb tc : TE} {ma mb mc : EX} {pos p : Pos} {tt : TT} {mt : EB}
structure STt (X : Cx) (C : Cn) (es : List Expr) (te : TT) (m : EB) : Prop where
  pe : PTs X es te
  ev : EvB X.K C te m
theorem st_nil : STt X C [] tYes bYes := ⟨pts_nil, fun N H σ env e s Q h => PostR.now (P := fun x _ H' => Q x H') e h⟩
theorem st_one (h : SB X C a tt mt) : STt X C [a] tt mt := ⟨pts_one h.pe, h.ev⟩
abbrev inBlk (X : Cx) (scope : Scope) (P : Cx → Prop) : Prop := ∀ (s : Shared) (H : Hp) (Cc : Addr) (cl : List (Str × Addr)) (fp : List Addr), P (X.blk s H scope (compEnvC scope cl Cc X.env) fp)
theorem sf_comp {elt tg iter : Expr} {ifs : List Expr} {scope : Scope} {own : List (Str × Nat)} {wi : TI} {it : EI} {g : TG} {put : Put} {is : List Nat} {te : TE} {me : EX} (F : Fr X C) (hi : SI X C tg iter wi it) (hp : inBlk X scope fun Y => STg Y tg g put is) (ht : inBlk X scope fun Y => STt Y (C0 C) ifs tt mt)
    (he : inBlk X scope fun Y => SE Y (C0 C) elt te me) (hsub : ∀ i ∈ is, i ∈ own.map (·.2) := by decide) (hN : X.N.Nodup := by assumption) (ok : BlkOk X.N X.env.scope scope own := by exact blkOk_by (by rfl)) (hs : ∀ x, foldedSetIterable iter X.env x = pure x := by intro _; rfl) :
    SF X C (.ListComp elt [⟨tg, iter, ifs, 0⟩] scope pos) (tLc wi g tt te (own.map (·.2))) (eComp it (own.map (·.2)) put mt me) :=
  ⟨pe_lc F.ca hN hi.pi ok (fun s H Cc cl fp => (hp s H Cc cl fp).pe) (fun s H Cc cl fp => (ht s H Cc cl fp).pe) (fun s H Cc cl fp => (he s H Cc cl fp).pe) hs,
   ef_comp hi.ev (hp X.s_0 X.H_0 0 [] []).ev hsub (ht X.s_0 X.H_0 0 [] []).ev (he X.s_0 X.H_0 0 [] []).ev⟩
theorem comp_lst {it : EI} {own : List Nat} {put : Put} (env : Env) (x : Val) (h : eComp it own put mt me env = .ok x) : ∃ xs, x = .lst xs := by
  unfold eComp at h
  cases hm : it env with
  | ok ys =>
    rw [hm] at h
    simp only [Res.bind_ok] at h
    split at h
    · cases hq : compL put mt me (wipeE env own) ys with
      | ok r => rw [hq] at h; cases h; exact ⟨_, rfl⟩
      | exc e => rw [hq] at h; cases h
      | bad => rw [hq] at h; cases h
    · cases h
  | exc e => rw [hm] at h; cases h
  | bad => rw [hm] at h; cases h
theorem SF.comp {it : EI} {own : List Nat} {put : Put} {te : TE} (h : SF X C a te (eComp it own put mt me)) : SE X C a te (eComp it own put mt me) := ⟨h.pe, EvF.e comp_lst h.ev⟩
variable {st : Stmt} {rest : List Stmt} {t u : TS} {m n : ST} {te : TE} {me : EX}
theorem ss_nil : SSs X C [] tNext sNext := ⟨pss_nil, es_next⟩
theorem ss_one (h : SSt X C st t m) : SSs X C [st] t m := ⟨pss_one h.ps, h.ev⟩
theorem ss_cons (h : SSt X C st t m) (r : SSs X C rest u n) : SSs X C (st :: rest) (tSeq t u) (sSeq m n) := ⟨pss_cons h.ps r.ps, es_seq h.ev r.ev⟩
/-- ahead of these: the slot's list stays from here on; slots forgotten -/
theorem ss_freeze (i : Nat) (r : SSs X C rest u n) : SSs X C rest u (sSeq (sFreeze i) n) := ⟨r.ps, es_freeze r.ev⟩
theorem ss_expr (ha : SE X C a ta ma) (hs : swapsWith a none pos.line X.env = pure false := by rfl) : SSt X C (.Expr a pos) (tDrop ta) (sDrop ma) := ⟨ps_expr ha.pe hs, es_drop ha.ev⟩
theorem ss_ret (ha : SE X C a ta ma) : SSt X C (.Return (some a) pos) (tRet ta) (sRet ma) := ⟨ps_ret ha.pe, es_ret ha.ev⟩
theorem ss_if {as bs : List Stmt} (hc : SB X C c tt mt) (ha : SSs X C as t m) (hb : SSs X C bs u n) : SSt X C (.If c as bs pos) (tIfS tt t u) (sIf mt m n) := ⟨ps_if hc.pe ha.ps hb.ps, es_if hc.ev ha.ev hb.ev⟩
theorem ss_while {as : List Stmt} (k : Nat) (F : Fr X C) (hc : SB X C c tt mt) (ha : SSs X C as t m) : SSt X C (.While c as [] pos) (tWhile tt t) (sWhile k mt m) := ⟨ps_while F.ow hc.pe ha.ps, es_while hc.ev ha.ev⟩
theorem ss_for {tg iter : Expr} {wi : TI} {it : EI} {g : TG} {put : Put} {is : List Nat} {as : List Stmt} (F : Fr X C) (hi : SI X C tg iter wi it) (hp : STg X tg g put is) (ha : SSs X C as t m)
    (hs : ∀ x, foldedSetIterable iter X.env x = pure x := by intro _; rfl) : SSt X C (.For tg iter as [] pos) (tFor wi g t) (sFor it put m) := ⟨ps_for F.ow F.ca hi.pi hp.pe ha.ps hs, es_for hi.ev hp.ev ha.ev⟩
/-- name = e -/
theorem ss_asg (i : Nat) {x : Str} (ps : PE X a ta) (ev : EvS X.K C (tAsg ta (gName i)) m) (hs : swapsWith a (some (.Name x p)) pos.line X.env = pure false := by rfl) (hN : X.N.Nodup := by assumption) (hi : X.N[i]? = some x := by rfl) (hx : Loc X.env.scope x := by first | exact .inl rfl | exact .inr rfl)
    (hf : X.fn x = true ∨ X.env.scope.names.lookup x = some .local := by first | exact .inr rfl | exact .inl rfl) : SSt X C (.Assign [.Name x p] a pos) (tAsg ta (gName i)) m := ⟨ps_set hN hi hx ps hs hf, ev⟩
theorem ss_set (i : Nat) {x : Str} (ha : SE X C a ta ma) (hs : swapsWith a (some (.Name x p)) pos.line X.env = pure false := by rfl) (hN : X.N.Nodup := by assumption) (hi : X.N[i]? = some x := by rfl) (hx : Loc X.env.scope x := by first | exact .inl rfl | exact .inr rfl)
    (hf : X.fn x = true ∨ X.env.scope.names.lookup x = some .local := by first | exact .inr rfl | exact .inl rfl) : SSt X C (.Assign [.Name x p] a pos) (tAsg ta (gName i)) (sSet i ma) := ss_asg i ha.pe (es_set ha.ev) hs hN hi hx hf
theorem ss_setN (i : Nat) {x : Str} (ha : SE X C a ta ma) (hs : swapsWith a (some (.Name x p)) pos.line X.env = pure false := by rfl) (hN : X.N.Nodup := by assumption) (hi : X.N[i]? = some x := by rfl) (hx : Loc X.env.scope x := by first | exact .inl rfl | exact .inr rfl)
    (hf : X.fn x = true ∨ X.env.scope.names.lookup x = some .local := by first | exact .inr rfl | exact .inl rfl) : SSt X C (.Assign [.Name x p] a pos) (tAsg ta (gName i)) (sSetN i ma) := ss_asg i ha.pe (es_setN ha.ev) hs hN hi hx hf
theorem ss_own (i : Nat) {x : Str} (ha : SF X C a ta ma) (hs : swapsWith a (some (.Name x p)) pos.line X.env = pure false := by rfl) (hN : X.N.Nodup := by assumption) (hi : X.N[i]? = some x := by rfl) (hx : Loc X.env.scope x := by first | exact .inl rfl | exact .inr rfl)
    (hf : X.fn x = true ∨ X.env.scope.names.lookup x = some .local := by first | exact .inr rfl | exact .inl rfl) : SSt X C (.Assign [.Name x p] a pos) (tAsg ta (gName i)) (sOwn i ma) := ss_asg i ha.pe (es_own ha.ev) hs hN hi hx hf
/-- a, b = e -/
theorem ss_put {tg : Expr} {g : TG} {put : Put} {is : List Nat} (hp : STg X tg g put is) (hnx : ∀ x env, NX (put x env)) (ha : SE X C a ta ma) (hs : swapsWithSole [tg] a pos.line X.env = pure false := by rfl) (hw : swappedStores [tg] a X.env = pure none := by rfl)
    (h1 : (assignEach [tg] X.env).map (·.2) = [assign tg X.env] := by rfl) : SSt X C (.Assign [tg] a pos) (tAsg ta g) (sPut put ma) := ⟨ps_asg ha.pe hp.pe hs hw h1, es_put hp.ev hnx ha.ev⟩
theorem nx_pName {i : Nat} (x : Val) (env : Env) : NX (pName i x env) := by unfold pName; exact nx_ite nx_ok nx_bad
theorem nx_putAll : ∀ {is : List Nat} (xs : List Val) (env : Env), NX (putAll is xs env)
  | [], [], _ => nx_ok
  | [], _ :: _, _ => nx_bad
  | _ :: _, [], _ => nx_bad
  | i :: is, x :: xs, env => nx_bind (nx_pName x env) fun e => nx_putAll xs e
theorem nx_pTup {is : List Nat} (x : Val) (env : Env) : NX (pTup is x env) := by
  unfold pTup
  split
  · exact nx_putAll _ _
  · exact nx_bad
/-- x[b] = a -/
theorem ss_item (i : Nat) {x : Str} {p2 : Pos} (ha : SE X C a ta ma) (hb : SE X C b tb mb) (hN : X.N[i]? = some x := by rfl) (hv : Vis X.env.scope x := by first | exact Or.inl rfl | exact Or.inr (Or.inl rfl) | exact Or.inr (Or.inr rfl)) (hd : (x == ("__debug__" : Str)) = false := by decide)
    (hcd : (x == ("__classdict__" : Str)) = false := by decide) (hsb : ∀ v, assign (.Subscript (.Name x p) b p2) X.env v = (do
      let ov ← holding [v] (eval (.Name x p) X.env)
      let iv ← holding [v, ov] (eval b X.env)
      standAt p2
      holding [v, ov, iv] (setItem ov iv v)
      release [v, ov, iv] []) := by intro _; rfl)
    (hs : swapsWithSole [.Subscript (.Name x p) b p2] a pos.line X.env = pure false := by rfl) (hw : swappedStores [.Subscript (.Name x p) b p2] a X.env = pure none := by rfl)
    (h1 : (assignEach [.Subscript (.Name x p) b p2] X.env).map (·.2) = [assign (.Subscript (.Name x p) b p2) X.env] := by rfl) : SSt X C (.Assign [.Subscript (.Name x p) b p2] a pos) (tAsg ta (gSub (tVar i) tb rSetL)) (sOn i (sItem i mb ma)) :=
  ⟨ps_asg ha.pe (pg_sub (pv i hN hv hd hcd) hb.pe set_list hsb) hs hw h1, es_item ha.ev hb.ev⟩
theorem ops_ipAdd {K : PySem.W.Frag} : OpS K (ipI fun i j => i + j) vIpAdd := by
  intro N H e v w x y rx ry Q ⟨z, hz, k⟩
  unfold vIpAdd at hz
  split at hz
  · cases hz; cases rx; cases ry
    exact ⟨_, _, rfl, rfl, k N H (Gr.refl e) _ (.int _)⟩
  · cases hz
theorem nx_ipAdd (x y : Val) : NX (vIpAdd x y) := by unfold vIpAdd; split <;> first | exact nx_ok | exact nx_bad
theorem ss_aug (i : Nat) {x : Str} {op : Operator} {r : TIp} {f : Val → Val → Res Val} (ho : PIp X op r) (hr : OpS X.K r f) (nx : ∀ x y, NX (f x y)) (ha : SE X C a ta ma) (hN : X.N.Nodup := by assumption) (hi : X.N[i]? = some x := by rfl) (hx : Loc X.env.scope x := by first | exact .inl rfl | exact .inr rfl)
    (hf : X.fn x = true ∨ X.env.scope.names.lookup x = some .local := by first | exact .inr rfl | exact .inl rfl) : SSt X C (.AugAssign (.Name x p) op a pos) (tAug i ta r) (sAug f i ma) := ⟨ps_aug hN hi hx ha.pe ho hf, es_aug hr nx ha.ev⟩
theorem ss_augAdd (i : Nat) {x : Str} (ha : SE X C a ta ma) (hN : X.N.Nodup := by assumption) (hi : X.N[i]? = some x := by rfl) (hx : Loc X.env.scope x := by first | exact .inl rfl | exact .inr rfl)
    (hf : X.fn x = true ∨ X.env.scope.names.lookup x = some .local := by first | exact .inr rfl | exact .inl rfl) : SSt X C (.AugAssign (.Name x p) .Add a pos) (tAug i ta (ipI fun i j => i + j)) (sAug vIpAdd i ma) := ss_aug i ip_add ops_ipAdd nx_ipAdd ha hN hi hx hf
/-- x.append(a) -/
theorem pe_app (i : Nat) {x : Str} {pa : Pos} (ha : SE X C a ta ma) (hN : X.N[i]? = some x := by rfl) (hv : Vis X.env.scope x := by first | exact Or.inl rfl | exact Or.inr (Or.inl rfl) | exact Or.inr (Or.inr rfl)) (hd : (x == ("__debug__" : Str)) = false := by decide) (hcd : (x == ("__classdict__" : Str)) = false := by decide)
    (hbase : attributeBase (.Name x p) "append" X.env (eval (.Name x p) X.env) = eval (.Name x p) X.env := by rfl)
    (hfew : ((backTo pos (starEach [a] X.env)).all (fun x => !x.1) && (backToKw pos (keywordEach [] X.env)).all (fun x => x.1.isSome)
      && decide ([a].length + ([] : List Keyword).length + (if ([] : List Keyword).isEmpty then 0 else 1) < 30)) = true := by rfl)
    (hline : (pa.endLine == pos.line) = true := by rfl) (hs : starEach [a] X.env = (false, eval a X.env) :: starEach [] X.env := by rfl) (hplain : (backTo pos (starEach [] X.env)).any (·.1) = false := by rfl) :
    PE X (.Call (.Attribute (.Name x p) "append" pa) [a] [] pos) (tBM X.K "list" rAppend (tVar i) (tCons ta tNil)) :=
  pe_bm PySem.F.plainAttrs_list PySem.F.slot_list_append PySem.F.type_list_append mt_append (pv i hN hv hd hcd) (pa_cons ha.pe pa_nil hs) hbase hfew hline hs hplain
theorem ss_app (i : Nat) {x : Str} {pa pos2 : Pos} (ha : SE X C a ta ma) (hN : X.N[i]? = some x := by rfl) (hv : Vis X.env.scope x := by first | exact Or.inl rfl | exact Or.inr (Or.inl rfl) | exact Or.inr (Or.inr rfl)) (hd : (x == ("__debug__" : Str)) = false := by decide) (hcd : (x == ("__classdict__" : Str)) = false := by decide)
    (hbase : attributeBase (.Name x p) "append" X.env (eval (.Name x p) X.env) = eval (.Name x p) X.env := by rfl)
    (hfew : ((backTo pos (starEach [a] X.env)).all (fun x => !x.1) && (backToKw pos (keywordEach [] X.env)).all (fun x => x.1.isSome)
      && decide ([a].length + ([] : List Keyword).length + (if ([] : List Keyword).isEmpty then 0 else 1) < 30)) = true := by rfl)
    (hline : (pa.endLine == pos.line) = true := by rfl) (hs : starEach [a] X.env = (false, eval a X.env) :: starEach [] X.env := by rfl) (hplain : (backTo pos (starEach [] X.env)).any (·.1) = false := by rfl)
    (hsw : swapsWith (.Call (.Attribute (.Name x p) "append" pa) [a] [] pos) none pos2.line X.env = pure false := by rfl) : SSt X C (.Expr (.Call (.Attribute (.Name x p) "append" pa) [a] [] pos) pos2) (tDrop (tBM X.K "list" rAppend (tVar i) (tCons ta tNil))) (sAppend i ma) :=
  ⟨ps_expr (pe_app i ha hN hv hd hcd hbase hfew hline hs hplain) hsw, es_append ha.ev⟩
end
theorem so_start {K : PySem.W.Frag} {me : V} {N H : Hp} : ∀ {vs : List V} {xs : List Val} {n : Nat}, RVs K N vs xs → SO K me N H (vs.map some ++ List.replicate n none) (xs.map Slot.sh ++ List.replicate n Slot.un) []
  | _, _, 0, .nil => .nil
  | _, _, n + 1, .nil => SO.cons (f := []) (fs := []) (.un none) (so_start (n := n) .nil)
  | _, _, n, .cons h r => SO.cons (f := []) (fs := []) (.sh h) (so_start r)
abbrev FX (P : Program) (w : World) (K : PySem.W.Frag) (mg : Str → Option Value) (base : Heap) (N : List Str) (qual : Str) (scope : Scope) (f : Addr) (cd : Value) (A : Around) (outer : List PySem.Env) (s : Shared) (H : Hp) (E : XK) : Cx := cxOf (L2.CX P w) P w K mg base N qual scope f cd A outer s H E
/-- a def: its body's steps, whatever is wanted of an exception -/
def Body (P : Program) (w : World) (K : PySem.W.Frag) (mg : Str → Option Value) (base : Heap) (XR : XRel) (j : Nat) (N : List Str) (qual : Str) (scope : Scope) (body : List Stmt) (m : ST) : Prop :=
  ∀ (f : Addr) (cd : Value) (A : Around) (outer : List PySem.Env) (s : Shared) (H : Hp) (E : XK) (W : WX), let X := FX P w K mg base N qual scope f cd A outer s H E
    Takes X W → Fr X ⟨XR, some W⟩ → Room j X.A → ∃ t, SSs X ⟨XR, some W⟩ body t m
theorem defn_ne {k n : Nat} {m : ST} {xs : List Val} (h : defn k n m xs ≠ .bad) : xs.length = k := by
  unfold defn at h
  split at h
  · assumption
  · exact absurd rfl h
section
variable {P : Program} {w : World} {K : PySem.W.Frag} {mg : Str → Option Value} {base : Heap} {XR : XRel}
theorem fn_ok {x qual : Str} {params : Arguments} {body : List Stmt} {scope : Scope} {dvs : List V} {kws : List (Str × V)} {f : Addr} {fd : FuncData} {N ps : List Str} {j k n : Nat} {m : ST} (F : FunD K x qual params body scope dvs kws f fd) (S : FnScope N ps scope)
    (hk : ps.length = k) (hn : N.length = n) (hb : Body P w K mg base XR j N qual scope body m) : FnOk P w K mg base (L2.CX P w) (j + 1) f fd ps (spF K XR k (defn k n m)) := by
  refine F.ok S (fun vs H Q E h => ?_) (fun cdv A outer s H vs Q E hr h => ?_)
  · obtain ⟨N0, xs, _, r, hl, _⟩ := h
    rw [r.length, hl, hk]
  · have tk : Takes (FX P w K mg base N qual scope f cdv A outer s H E) (fun cls d _ H => E cls d H) := takes_of rfl rfl rfl rfl
    obtain ⟨t, h1, h2⟩ := hb f cdv A outer s H E _ tk ⟨units65 hr, rfl, Lets.of tk, passes_of rfl⟩ hr
    refine ⟨t, h1, ?_⟩
    obtain ⟨N0, xs, e, r, hl, q⟩ := h
    have hst : SO K .non N0 H (L2.start N vs) (startE n xs) [] := by
      unfold L2.start startE
      rw [hn, r.length]
      exact so_start r
    refine h2 ⟨N0, H, fun _ => none, .non⟩ N0 H _ _ [] ⟨Gr.refl e, (fun a o q => nomatch q), (fun a ha => by cases ha), List.nodup_nil, hst⟩ _ ?_
    unfold defn at q
    rw [if_pos hl] at q
    cases hm : m (startE n xs) with
    | next e => rw [hm] at q; exact fun M H' σ fs S' => q M H' S'.g _ .non
    | ret x e => rw [hm] at q; exact fun M' N' H' v σ fs _ _ _ g rv _ => q N' H' g v rv
    | exc z e =>
      rw [hm] at q
      exact ⟨_, rfl, fun cls d M H' σ fs S' hx => q cls d M H' S'.g hx⟩
    | brk e => rw [hm] at q; exact q.elim
    | cont e => rw [hm] at q; exact q.elim
    | bad => rw [hm] at q; exact q.elim
theorem cal_of {x qual : Str} {params : Arguments} {body : List Stmt} {scope : Scope} {f : Addr} {fd : FuncData} {N ps : List Str} {j k n : Nat} {m : ST} (F : FunD K x qual params body scope [] [] f fd) (gm : mg x = some (.ref f)) (S : FnScope N ps scope)
    (hb : ∀ (kV doc pm : Value) (an : Option Addr) (cdv ct : Value) (us : List Value), us.length = ps.length → bindArgs (PySem.W.fnOf x qual params body scope .none kV doc pm an cdv ct) ⟨us, []⟩ = pure (ps.zip us))
    (hk : ps.length = k) (hn : N.length = n) (h : Body P w K mg base XR j N qual scope body m) : Cal P w K mg base XR x (j + 1) k (defn k n m) :=
  ⟨⟨f, fd, ps, fn_ok F S hk hn h, gm, F.kp, F.bindsN hb⟩, fun _ => defn_ne⟩
end
end Vm
namespace Vm
open PySem L2 PyProof.Rows
variable [TabsOf]
def spLaw (sp : Sp) : Sp := fun vs H Q E => sp vs H Q E ∧ E = fun _ _ _ => False
theorem FnOk.to0 {P : Program} {w : World} {K : PySem.W.Frag} {mg : Str → Option Value} {base : Heap} {k : Nat} {f : Addr} {fd : FuncData} {ps : List Str} {sp : Sp} (F : FnOk P w K mg base (L2.CX P w) k f fd ps sp) : FnOk P w K mg base CX0 k f fd ps (spLaw sp) :=
  ⟨fun vs H Q E h => F.len vs H Q E h.1, fun A outer s H args us vs Q E hr he hb hv h => by
    obtain ⟨h1, rfl⟩ := h
    refine codeAny_mono (F.run A outer s H args us vs Q _ hr he hb hv h1) fun r s' hq => ?_
    cases r with
    | error e =>
      obtain ⟨_, _, _, _, _, _, _, _, _, _, _, _, z⟩ := hq
      exact z.elim
    | ok fl => cases fl <;> exact hq⟩
/-- all but the tables -/
def noT (H : Hp) : Hp := fun b => match H b with
  | some (.tbl _) => Option.none
  | o => o
theorem noT_eq {H : Hp} {b : Addr} {o : HO} (h : noT H b = some o) : H b = some o ∧ ntb o = true := by
  unfold noT at h
  split at h
  · cases h
  · rename_i hn
    refine ⟨h, ?_⟩
    cases o <;> first | rfl | exact absurd h (hn _)
theorem noT_at {H : Hp} {b : Addr} {o : HO} (h : H b = some o) (ho : ntb o = true := by rfl) : noT H b = some o := by
  unfold noT
  rw [h]
  cases o <;> first | rfl | cases ho
theorem noT_inn {H : Hp} (hT : LamX.Tabs TabsOf.T H) : Inn (noT H) H := ⟨fun b o h => (noT_eq h).1, hT, fun b o h => (noT_eq h).2⟩
theorem noT_seq {K : PySem.W.Frag} {H : Hp} {a : Addr} {xs : List V} (h : SqL K H a xs) : SqL K (noT H) a xs := by
  rcases h with (h | ⟨o, h⟩) | h
  · exact .inl (.inl (noT_at h))
  · exact .inl (.inr ⟨o, noT_at h⟩)
  · exact .inr h
theorem law_sp {K : PySem.W.Frag} {XR : XRel} {f : Fn} {ns : List Int} (pure : f [.lst (ns.map Val.int)] = .ret (.bl true)) {H : Hp} {a : Addr} (hS : SqL K H a (ns.map V.int)) (hT : LamX.Tabs TabsOf.T H := by exact fun _ h => nomatch h) : spLaw (spF K XR 1 f) [.ref a] H (fun v _ => v = .bl true) fun _ _ _ => False := by
  refine ⟨⟨noT H, [.lst (ns.map Val.int)], noT_inn hT, .cons (.lst (noT_seq hS) ?_) .nil, rfl, ?_⟩, rfl⟩
  · induction ns with
    | nil => exact .nil
    | cons n ns ih =>
      exact .cons (.int n) (by
        clear ih pure hS
        induction ns with
        | nil => exact .nil
        | cons m ms ih => exact .cons (.int m) ih)
  · rw [pure]
    intro N' H' g v rv
    cases rv
    rfl
end Vm
namespace Vm
open PySem L2 PyProof.Rows
variable [TabsOf]
/-- an exception's class and fields -/
def xr (K : PySem.W.Frag) : XRel := fun H cls d q => cls = .ref (He.ga K q.cls) ∧ ((q.fs = [] ∧ d = none) ∨ (q.fs ≠ [] ∧ ∃ dd, d = some dd ∧ H dd = some (.xd (q.fs.map fun p => (p.1, toV p.2)))))
abbrev CN (K : PySem.W.Frag) : Cn := ⟨xr K, none⟩
structure XC (K : PySem.W.Frag) (mg : Str → Option Value) (x : Str) : Prop where
  g : mg x = some (.ref (He.ga K x))
  e : PySem.W.excIn K (He.ga K x) He.veBase "ValueError.__new__" = true ∧ PySem.W.keepIn K (.ref (He.ga K x)) = true ∧ PySem.W.subIn K (.ref (He.ga K x)) (.type "BaseException") = some true ∧ PySem.W.typeIn K (.ref (He.ga K x)) = some (.type "type")
theorem look_mem {β : Type} {x : Str} {b : β} : ∀ {tab : List (Str × β)}, tab.lookup x = some b → (x, b) ∈ tab
  | [], h => by cases h
  | (y, c) :: r, h => by
    rw [List.lookup_cons] at h
    split at h
    · rename_i e
      cases h
      rw [beq_iff_eq] at e
      subst e
      exact List.mem_cons_self
    · exact List.mem_cons_of_mem _ (look_mem h)
section
variable {K : PySem.W.Frag} {C : Cn} {B : Bs} {D : Ends}
theorem PostF.calmC {W W' : Option WX} {r : Flow} (h : PostF K ⟨xr K, W⟩ B D r.calm) : PostF K ⟨xr K, W'⟩ B D r := by
  cases r with
  | exc q e => exact h.elim
  | bad => exact h.elim
  | _ => exact h
theorem es_try {Wout : WX} {tb : WX → TS} {ts : Addr → Value → Option Addr → TS} {body : ST} {su : Exn → ST} {tab : List (Str × Bool)} {c : Value}
    (hx : ∀ p ∈ tab, PySem.W.exmOne K (.ref (He.ga K p.1)) c = some p.2) (hb : ∀ W, EvS K ⟨xr K, some W⟩ (tb W) body)
    (hs : ∀ q a cls d B M H σ env fs, SR K B M H σ env fs → xr K H cls d q → ∀ D, PostF K (CN K) B D (su q env) → ts a cls d D σ H) :
    EvS K ⟨xr K, some Wout⟩ (fun D σ H => tb (wOnly K c ts Wout D) D σ H) (sTry tab body su) := fun B M H σ env fs S D h => by
  refine hb (wOnly K c ts Wout D) B M H σ env fs S D ?_
  unfold sTry at h
  cases hm : body env with
  | exc q e =>
    rw [hm] at h
    refine ⟨_, rfl, fun cls d M' H' σ' fs' S' hq => ?_⟩
    have h : PostF K ⟨xr K, some Wout⟩ B D (match tab.lookup q.cls with
      | some true => (su q e).calm
      | some false => .exc q e
      | none => .bad) := h
    cases hl : tab.lookup q.cls with
    | none => rw [hl] at h; exact h.elim
    | some b =>
      rw [hl] at h
      refine ⟨b, ?_, fun hb1 a ha => ?_, fun hb1 => ?_⟩
      · rw [hq.1]; exact hx _ (look_mem hl)
      · subst hb1
        exact hs q a cls d B M' H' σ' e fs' S' hq D (PostF.calmC h)
      · subst hb1
        obtain ⟨w, e1, k⟩ := h
        cases e1
        exact k cls d M' H' σ' fs' S' hq
  | next e => rw [hm] at h; exact h
  | brk e => rw [hm] at h; exact h
  | cont e => rw [hm] at h; exact h
  | ret e => rw [hm] at h; exact h
  | bad => rw [hm] at h; exact h
theorem es_raise {W : WX} {q : Exn} (hq : q.fs = []) : EvS K ⟨xr K, some W⟩ (fun _ σ H => W (.ref (He.ga K q.cls)) none σ H) (sRaise q) := fun B M H σ env fs S D h => by
  obtain ⟨w, e1, k⟩ := h
  cases e1
  exact k _ _ M H σ fs S ⟨rfl, .inl ⟨hq, rfl⟩⟩
end
section
variable {X : Cx} {W : WX} {p p2 pos pos' : Pos}
theorem ss_raise {x m : Str} {j : Nat} (tk : Takes X W) (hc : X.calm = true) (c : XC X.K X.mg x) (hg : Gl X x := by rfl) (hdb : (x == ("__debug__" : Str)) = false := by decide) : SSt X ⟨xr X.K, some W⟩ (.Raise (some (.Call (.Name x p) [.Constant (.str m) j p2] [] pos)) none pos') (fun _ σ H => W (.ref (He.ga X.K x)) none σ H) (sRaise ⟨x, []⟩) :=
  ⟨ps_raise hc tk (pmk_own PySem.F.excBase_ValueError c.e.1 c.g c.e.2.1 (raises_own c.e.2.2.1 c.e.2.2.2) hg hdb), es_raise (q := ⟨x, []⟩) rfl⟩
theorem Fr.tr {W' : WX} {C : Cn} {pn : List (Addr × Obj)} {xe : Value → Shared → Prop} (F : Fr X C) (tk : Takes (X.tr pn xe) W') (pw : PassesOwn (model X.prog X.w) X.A X.env xe) : Fr (X.tr pn xe) ⟨xr X.K, some W'⟩ := ⟨F.hu, F.ca, Lets.of tk, pw⟩
/-- try: .. except x: .. -/
theorem ss_try {x : Str} {body suite : List Stmt} {b₀ : Stmt} {np : Pos} {t2 : WX → List (Addr × Obj) → (Value → Shared → Prop) → TS} {t1 : Addr → List (Addr × Obj) → TS} {mb : ST} {su : ST} {tab : List (Str × Bool)} (F : Fr X ⟨xr X.K, some W⟩) (tk : Takes X W) {jj : Nat} (hr : Room jj X.A) (c : XC X.K X.mg x) (hx : ∀ p ∈ tab, PySem.W.exmOne X.K (.ref (He.ga X.K p.1)) (.ref (He.ga X.K x)) = some p.2)
    (hb : ∀ (W : WX) (pn : List (Addr × Obj)) (xe : Value → Shared → Prop), Takes (X.tr pn xe) W → Fr (X.tr pn xe) ⟨xr X.K, some W⟩ → Room jj (X.tr pn xe).A → SSs (X.tr pn xe) ⟨xr X.K, some W⟩ body (t2 W pn xe) mb)
    (hsu : ∀ (a : Addr) (pn : List (Addr × Obj)), SSs (X.suite a pn) (CN X.K) (b₀ :: suite) (t1 a pn) su)
    (hs : X.stack = X.env :: X.outer := by rfl) (hf : X.env.frame = some X.env.locals := by rfl) (hg : Gl X x := by rfl) (hd : (x == ("__debug__" : Str)) = false := by decide) :
    SSt X ⟨xr X.K, some W⟩ (.Try body [.ExceptHandler (some (.Name x np)) none (b₀ :: suite) pos'] [] [] pos) (fun D σ H => (fun W D σ H => ∀ pn xe, Takes (X.tr pn xe) W → Fr (X.tr pn xe) ⟨xr X.K, some W⟩ → t2 W pn xe D σ H) (wOnly X.K (.ref (He.ga X.K x)) (fun a _ _ D σ H => ∀ pn, t1 a pn D σ H) W D) D σ H) (sTry tab mb fun _ => su) :=
  ⟨ps_try_only (tb := fun W D σ H => ∀ pn xe, Takes (X.tr pn xe) W → Fr (X.tr pn xe) ⟨xr X.K, some W⟩ → t2 W pn xe D σ H) (ts := fun a _ _ D σ H => ∀ pn, t1 a pn D σ H) hs hf ⟨hg, hd, .inl c.g⟩ tk (fun W pn xe tk pw => ⟨fun pins s σ H D I h => (hb W pn xe tk (F.tr tk pw) hr).ps.run pins s σ H D I (h pn xe tk (F.tr tk pw))⟩) (fun a oe cls d pn _ _ => ⟨fun pins s σ H D I h => (hsu a _).ps.run pins s σ H D I (h _)⟩),
   es_try (tb := fun W D σ H => ∀ pn xe, Takes (X.tr pn xe) W → Fr (X.tr pn xe) ⟨xr X.K, some W⟩ → t2 W pn xe D σ H) (ts := fun a _ _ D σ H => ∀ pn, t1 a pn D σ H) hx (fun W' B M H σ env fs S D h pn xe tk' F' => (hb W' pn xe tk' F' hr).ev B M H σ env fs S D h) (fun q a cls d B M H σ env fs S _ D h pn => (hsu a pn).ev B M H σ env fs S D h)⟩
end
end Vm
namespace Vm
open PySem L2 PyProof.Rows
variable [TabsOf]
section
variable {K : PySem.W.Frag} {C : Cn}
theorem nx_shl (x y : Val) : NX (vShl x y) := by unfold vShl; split <;> first | exact nx_ite nx_ok nx_bad | exact nx_bad
theorem ops_shl : OpS K (rI CPow fun i j => .int (i * 2 ^ j.toNat)) vShl := ops_I (g := fun i j => .int (i * 2 ^ j.toNat)) (fun _ _ _ => .int _) fun x y z h => by
  unfold vShl at h
  split at h
  · rename_i i j
    obtain ⟨h1, h2⟩ := ite_ok h
    have h1 := big_iff.mp h1
    exact ⟨i, j, rfl, rfl, ⟨h1.1, h1.2.1, by have := h1.2.2; omega⟩, h2⟩
  · cases h
variable {B : Bs} {M H : Hp} {σ : L2.St} {env : Env} {fs : List Addr} {D : Ends}
end
section
variable {X : Cx} {C : Cn} {a b c : Expr} {ta tb tc : TE} {ma mb mc : EX} {pos p : Pos} {es : List Expr}
/-- a comprehension that may be assigned to a plain local name -/
structure SFc (X : Cx) (C : Cn) (e : Expr) (te : TE) (m : EX) : Prop where
  sf : SF X C e te m
  as : ∀ (i : Nat) (y : Str) (py spos : Pos), X.N.Nodup → X.N[i]? = some y → X.env.scope.names.lookup y = some .local → swapsWith e (some (.Name y py)) spos.line X.env = pure true → PS X (.Assign [.Name y py] e spos) (tAsg te (gName i))
theorem sfc_comp {tt : TT} {mt : EB} {elt tg iter : Expr} {ifs : List Expr} {scope : Scope} {own : List (Str × Nat)} {wi : TI} {it : EI} {g : TG} {put : Put} {is : List Nat} {te : TE} {me : EX} (F : Fr X C) (hi : SI X C tg iter wi it) (hp : inBlk X scope fun Y => STg Y tg g put is) (ht : inBlk X scope fun Y => STt Y (C0 C) ifs tt mt)
    (he : inBlk X scope fun Y => SE Y (C0 C) elt te me) (hsub : ∀ i ∈ is, i ∈ own.map (·.2) := by decide) (hN : X.N.Nodup := by assumption) (ok : BlkOk X.N X.env.scope scope own := by exact blkOk_by (by rfl)) (hs : ∀ x, foldedSetIterable iter X.env x = pure x := by intro _; rfl) :
    SFc X C (.ListComp elt [⟨tg, iter, ifs, 0⟩] scope pos) (tLc wi g tt te (own.map (·.2))) (eComp it (own.map (·.2)) put mt me) :=
  ⟨sf_comp F hi hp ht he hsub hN ok hs, fun i y py spos hN' hy hyl hsw => ps_setLc F.ca hN' hy hyl hsw hi.pi ok (fun s H Cc cl fp => (hp s H Cc cl fp).pe) (fun s H Cc cl fp => (ht s H Cc cl fp).pe) (fun s H Cc cl fp => (he s H Cc cl fp).pe) hs⟩
theorem ss_ownLcN (i : Nat) {x : Str} (h : SFc X C a ta ma) (hs : swapsWith a (some (.Name x p)) pos.line X.env = pure true := by exact sw_true rfl rfl rfl (by decide +kernel)) (hN : X.N.Nodup := by assumption) (hi : X.N[i]? = some x := by rfl) (hx : X.env.scope.names.lookup x = some .local := by rfl) :
    SSt X C (.Assign [.Name x p] a pos) (tAsg ta (gName i)) (sOwnN i ma) := ⟨h.as i x p pos hN hi hx hs, es_ownN h.sf.ev⟩
theorem se_shl (ha : SE X C a ta ma) (hb : SE X C b tb mb) : SE X C (.BinOp a .LShift b pos) (tOp (rI CPow fun i j => .int (i * 2 ^ j.toNat)) ta tb) (e2 vShl ma mb) := ⟨pe_op op_shl ha.pe hb.pe, ev_op ops_shl nx_shl ha.ev hb.ev⟩
end
end Vm
namespace Vm
open PySem L2
variable [TabsOf]
section
variable {K : PySem.W.Frag} {C : Cn}
/-- the new list at D, its members so far; N' stays -/
def CP (K : PySem.W.Frag) (N1 H1 : Hp) (D : Addr) (acc : List V) (ys : List Val) (N' H' : Hp) : Prop := ∃ Hn, Gr N1 H1 N' Hn ∧ Hn D = none ∧ H' = upd Hn D (.lst acc) ∧ RVs K N' acc ys
section
variable {N1 H1 N' H' : Hp} {D : Addr} {acc : List V} {ys : List Val}
theorem CP.sub (p : CP K N1 H1 D acc ys N' H') : Inn N' H' := by
  obtain ⟨Hn, g, hn, rfl, _⟩ := p
  exact g.nh.newH hn
theorem CP.nn (p : CP K N1 H1 D acc ys N' H') : Sub N1 N' := by
  obtain ⟨Hn, g, hn, rfl, _⟩ := p
  exact g.nn
theorem CP.at (p : CP K N1 H1 D acc ys N' H') : H' D = some (.lst acc) := by
  obtain ⟨Hn, g, hn, rfl, _⟩ := p
  exact upd_same
theorem CP.start (hD : H1 D = none) (g : Inn N1 H1) : CP K N1 H1 D [] [] N1 (upd H1 D (.lst [])) := ⟨H1, Gr.refl g, hD, rfl, .nil⟩
end
/-- any loop over a walk -/
theorem walk_W {J : It} {n : Nat} {G : Hp → Prop} {Y : Nat → Hp → V → Hp → Prop} (w : Walk J n G Y) {H1 : Hp} {Qd : Hp → Prop} {T : V → Hp → (Hp → Prop) → Prop} (Pv : Nat → Hp → Prop) (h0 : Pv 0 H1) (hG : ∀ i H, i ≤ n → Pv i H → G H)
    (hs : ∀ i x H H', i < n → Pv i H → Y i H x H' → T x H' (Pv (i + 1))) (hd : ∀ H, Pv n H → Qd H) :
    ∃ W : Nat → Nat → Hp → Prop, (∃ m, W 0 m H1) ∧ ∀ i m H, W i m H →
      (J.stop i H ∧ Qd H) ∨ (J.go i H ∧ ∃ Nx : Hp → Prop, (∀ H', Nx H' → ∃ m', m' < m ∧ W (i + 1) m' H') ∧ ∀ x H', J.yld i H x H' → T x H' Nx) := by
  refine ⟨fun i m H => m = n - i ∧ i ≤ n ∧ Pv i H, ⟨n, by simp, Nat.zero_le _, h0⟩, ?_⟩
  rintro i m H ⟨rfl, hi, p⟩
  have q := hG i H hi p
  by_cases hlt : i < n
  · refine .inr ⟨w.goes i H hlt q, Pv (i + 1), fun H' p' => ⟨n - (i + 1), by omega, rfl, hlt, p'⟩, fun x H' y => hs i x H H' hlt p (w.yields i H x H' hlt q y)⟩
  · have e : i = n := by omega
    subst e
    exact .inl ⟨w.stops H q, hd H p⟩
end
end Vm
noncomputable section
namespace Vm
open PySem L2 PyProof.Rows
def hasK (st : Option (List Key → Bool)) (ks : List Key) : Bool := match st with
  | some f => f ks
  | none => true
def keysV : List Value → Option (List Key)
  | [] => some []
  | .int i _ :: r => (keysV r).map (.inl i :: ·)
  | .str x _ :: r => (keysV r).map (.inr x :: ·)
  | _ :: _ => none
def ktB (st : Option (List Key → Bool)) (K : PySem.W.Frag) : Bool := K.all fun p => match p.2.data with
  | .seq its _ => !decide (p.2.cls = .type "tuple") || (match keysV its.toList with
    | some ks => hasK st ks
    | none => true)
  | _ => true
def st_NodeTable (ks : List Key) : Bool := match ks with
  | .inr s :: r => !((["zero", "one", "input", "latch", "not", "and", "or", "xor", "mux"] : List Str).any (fun (z : Str) => decide (z = s)) && r.all fun k => k.isLeft)
  | _ => true
def st_Diagrams (ks : List Key) : Bool := !(decide (ks.length = 3) && ks.all fun k => k.isLeft)
end Vm
namespace Vm
namespace K90
open PySem L2 PyProof.Rows
def tb_NoSuchThing : List (Str × Bool) := [("InvalidValues", false), ("NoSuchThing", true)]
def tb_InvalidValues : List (Str × Bool) := [("InvalidValues", true), ("NoSuchThing", false)]
abbrev T (i : Nat) : Stmt := PySem.Challenge.pw_gatesread_k90_operations_on_diagrams.main.body.getD i (.Pass ⟨0, 0, 0, 0⟩)
def d_Diagrams___init__ : He.DefD := ⟨("Diagrams", some "__init__"), "__init__", "Diagrams.__init__", defArgs (inClass (T 9) 0), defBody (inClass (T 9) 0), defScope (inClass (T 9) 0), [], []⟩
def d__law_parts : He.DefD := ⟨("_law_parts", none), "_law_parts", "_law_parts", defArgs (T 12), defBody (T 12), defScope (T 12), [], []⟩
def d_Diagrams__check : He.DefD := ⟨("Diagrams", some "_check"), "_check", "Diagrams._check", defArgs (inClass (T 9) 1), defBody (inClass (T 9) 1), defScope (inClass (T 9) 1), [], []⟩
def d_Diagrams__top : He.DefD := ⟨("Diagrams", some "_top"), "_top", "Diagrams._top", defArgs (inClass (T 9) 3), defBody (inClass (T 9) 3), defScope (inClass (T 9) 3), [], []⟩
def d_Diagrams__found : He.DefD := ⟨("Diagrams", some "_found"), "_found", "Diagrams._found", defArgs (inClass (T 9) 2), defBody (inClass (T 9) 2), defScope (inClass (T 9) 2), [], []⟩
def d_Diagrams__side : He.DefD := ⟨("Diagrams", some "_side"), "_side", "Diagrams._side", defArgs (inClass (T 9) 4), defBody (inClass (T 9) 4), defScope (inClass (T 9) 4), [], []⟩
def d_Diagrams__chosen : He.DefD := ⟨("Diagrams", some "_chosen"), "_chosen", "Diagrams._chosen", defArgs (inClass (T 9) 5), defBody (inClass (T 9) 5), defScope (inClass (T 9) 5), [], []⟩
def d_Diagrams_choose : He.DefD := ⟨("Diagrams", some "choose"), "choose", "Diagrams.choose", defArgs (inClass (T 9) 9), defBody (inClass (T 9) 9), defScope (inClass (T 9) 9), [], []⟩
def d_Diagrams_negate : He.DefD := ⟨("Diagrams", some "negate"), "negate", "Diagrams.negate", defArgs (inClass (T 9) 10), defBody (inClass (T 9) 10), defScope (inClass (T 9) 10), [], []⟩
def d_Diagrams_differ : He.DefD := ⟨("Diagrams", some "differ"), "differ", "Diagrams.differ", defArgs (inClass (T 9) 13), defBody (inClass (T 9) 13), defScope (inClass (T 9) 13), [], []⟩
def d_Diagrams_both : He.DefD := ⟨("Diagrams", some "both"), "both", "Diagrams.both", defArgs (inClass (T 9) 11), defBody (inClass (T 9) 11), defScope (inClass (T 9) 11), [], []⟩
def d_Diagrams_either : He.DefD := ⟨("Diagrams", some "either"), "either", "Diagrams.either", defArgs (inClass (T 9) 12), defBody (inClass (T 9) 12), defScope (inClass (T 9) 12), [], []⟩
def d__law_apply : He.DefD := ⟨("_law_apply", none), "_law_apply", "_law_apply", defArgs (T 15), defBody (T 15), defScope (T 15), [], []⟩
def d__law_cell : He.DefD := ⟨("_law_cell", none), "_law_cell", "_law_cell", defArgs (T 11), defBody (T 11), defScope (T 11), [], []⟩
def d_Diagrams_variable : He.DefD := ⟨("Diagrams", some "variable"), "variable", "Diagrams.variable", defArgs (inClass (T 9) 8), defBody (inClass (T 9) 8), defScope (inClass (T 9) 8), [], []⟩
def d__law_bits : He.DefD := ⟨("_law_bits", none), "_law_bits", "_law_bits", defArgs (T 14), defBody (T 14), defScope (T 14), [], []⟩
def d__law_functions : He.DefD := ⟨("_law_functions", none), "_law_functions", "_law_functions", defArgs (T 16), defBody (T 16), defScope (T 16), [], []⟩
def d_check_bits : He.DefD := ⟨("check_bits", none), "check_bits", "check_bits", defArgs (T 5), defBody (T 5), defScope (T 5), [], []⟩
def d_Diagrams_value : He.DefD := ⟨("Diagrams", some "value"), "value", "Diagrams.value", defArgs (inClass (T 9) 14), defBody (inClass (T 9) 14), defScope (inClass (T 9) 14), [], []⟩
def d__law_refusal : He.DefD := ⟨("_law_refusal", none), "_law_refusal", "_law_refusal", defArgs (T 17), defBody (T 17), defScope (T 17), [], []⟩
def d_Diagrams_size : He.DefD := ⟨("Diagrams", some "size"), "size", "Diagrams.size", defArgs (inClass (T 9) 6), defBody (inClass (T 9) 6), defScope (inClass (T 9) 6), [], []⟩
def d_Diagrams_first_case : He.DefD := ⟨("Diagrams", some "first_case"), "first_case", "Diagrams.first_case", defArgs (inClass (T 9) 15), defBody (inClass (T 9) 15), defScope (inClass (T 9) 15), [], []⟩
def d__law_called : He.DefD := ⟨("_law_called", none), "_law_called", "_law_called", defArgs (T 18), defBody (T 18), defScope (T 18), [], []⟩
def d__law_refuses : He.DefD := ⟨("_law_refuses", none), "_law_refuses", "_law_refuses", defArgs (T 19), defBody (T 19), defScope (T 19), [], []⟩
def d__law_is_integer : He.DefD := ⟨("_law_is_integer", none), "_law_is_integer", "_law_is_integer", defArgs (T 13), defBody (T 13), defScope (T 13), [], []⟩
def d_law : He.DefD := ⟨("law", none), "law", "law", defArgs (T 20), defBody (T 20), defScope (T 20), [], []⟩
def hFn : List He.DefD := [d_Diagrams___init__, d__law_parts, d_Diagrams__check, d_Diagrams__top, d_Diagrams__found, d_Diagrams__side, d_Diagrams__chosen, d_Diagrams_choose, d_Diagrams_negate, d_Diagrams_differ, d_Diagrams_both, d_Diagrams_either, d__law_apply, d__law_cell, d_Diagrams_variable, d__law_bits, d__law_functions, d_check_bits, d_Diagrams_value, d__law_refusal, d_Diagrams_size, d_Diagrams_first_case, d__law_called, d__law_refuses, d__law_is_integer, d_law]
def hFa : List He.Fa := [.free "range", .free "len", .free "int", .free "max", .free "min", .free "isinstance", .free "bool", .int "ONE" 1, .int "ZERO" 0, .glo "NoSuchThing", .exc "NoSuchThing", .glo "InvalidValues", .exc "InvalidValues", .glo "Diagrams", .mkr "Diagrams", .glo "_law_parts", .meth "Diagrams" "_check", .meth "Diagrams" "_top", .meth "Diagrams" "_found", .meth "Diagrams" "_side", .meth "Diagrams" "_chosen", .meth "Diagrams" "choose", .meth "Diagrams" "negate", .meth "Diagrams" "differ", .meth "Diagrams" "both", .meth "Diagrams" "either", .glo "_law_apply", .glo "_law_cell", .meth "Diagrams" "variable", .glo "_law_bits", .glo "_law_functions", .glo "check_bits", .meth "Diagrams" "value", .glo "_law_refusal", .meth "Diagrams" "size", .meth "Diagrams" "first_case", .glo "_law_called", .glo "_law_refuses", .glo "_law_is_integer", .glo "law", .cls "Diagrams", .noat "Diagrams" "_count", .noat "Diagrams" "_nodes", .noat "Diagrams" "_numbers", .noat "Diagrams" "_choices"]
def hTs : List He.Tab := []
def hEs : List (PySem.W.Frag → Bool) := [fun K => tb_NoSuchThing.all fun p => decide (PySem.W.exmOne K (.ref (He.ga K p.1)) (.ref (He.ga K "NoSuchThing")) = some p.2), fun K => tb_InvalidValues.all fun p => decide (PySem.W.exmOne K (.ref (He.ga K p.1)) (.ref (He.ga K "InvalidValues")) = some p.2), fun K => ktB (some st_Diagrams) K]
def hEx (K : PySem.W.Frag) : Bool := hEs.all fun f => f K
def loose : List PySem.Str := "GatesError" :: "InvalidValues" :: "NoSuchThing" :: "check_bits" :: "ZERO" :: "ONE" :: "Diagrams" :: "_law_cell" :: "_law_parts" :: "_law_is_integer" :: "_law_bits" :: "_law_apply" :: "_law_functions" :: "_law_refusal" :: "_law_called" :: "_law_refuses" :: []
abbrev RwL : PySem.W.OpenRow := PySem.W.OpenLaw.row PySem.Challenge.rw_gatesread_k90_operations_on_diagrams
abbrev hk : PySem.W.Hook := He.hookX 4 hFa hFn hTs [] hEx
def ob (s : PySem.W.SharedT) : He.AlX := He.obsX 4 hFa hFn hTs [] hEx (HandSHeadRun.getT s)
theorem ob_eq (s : PySem.W.SharedT) : ob s = hk.obs s.abs := He.obsX_eq (HandSHeadRun.getT_eq s)
theorem hrunF (w : World) : HandSHeadRun.RunEq RwL (PySem.W.view RwL.prog [20]) hk ob 4000 loose (w.withFollow "special-get-raises" false) := fun os => by kernel_rfl
theorem hrunT (w : World) : HandSHeadRun.RunEq RwL (PySem.W.view RwL.prog [20]) hk ob 4000 loose (w.withFollow "special-get-raises" true) := fun os => by kernel_rfl
theorem hrun (w : World) : HandSHeadRun.RunEq RwL (PySem.W.view RwL.prog [20]) hk ob 4000 loose w :=
  PySem.W.byRow2 "special-get-raises" (P := fun w => HandSHeadRun.RunEq RwL (PySem.W.view RwL.prog [20]) hk ob 4000 loose w) hrunF hrunT w
end K90
end Vm
end
namespace Vm
open PySem L2 PyProof.Rows
variable [TabsOf]
/-- a step into a tree -/
inductive Stp where
  | ix (j : Nat)
  | ky (k : Key)
  | fl (f : Str)
def lookK : List (Key × Tr) → Key → Option Tr
  | [], _ => none
  | (q, t) :: r, k => if q = k then some t else lookK r k
def modK (g : Tr → Tr) : List (Key × Tr) → Key → List (Key × Tr)
  | [], _ => []
  | (q, t) :: r, k => if q = k then (q, g t) :: r else (q, t) :: modK g r k
def lookF : List (Str × Tr) → Str → Option Tr
  | [], _ => none
  | (q, t) :: r, k => if q = k then some t else lookF r k
def modF (g : Tr → Tr) : List (Str × Tr) → Str → List (Str × Tr)
  | [], _ => []
  | (q, t) :: r, k => if q = k then (q, g t) :: r else (q, t) :: modF g r k
def modL (g : Tr → Tr) : List Tr → Nat → List Tr
  | [], _ => []
  | t :: r, 0 => g t :: r
  | t :: r, j + 1 => t :: modL g r j
def getAt : List Stp → Tr → Option Tr
  | [], t => some t
  | .ix j :: p, .l ts => (match ts[j]? with
    | some t => getAt p t
    | none => none)
  | .ky k :: p, .d ts => (match lookK ts k with
    | some t => getAt p t
    | none => none)
  | .fl f :: p, .o _ ts => (match lookF ts f with
    | some t => getAt p t
    | none => none)
  | _, _ => none
def setAt : List Stp → Tr → Tr → Tr
  | [], u, _ => u
  | .ix j :: p, u, .l ts => .l (modL (setAt p u) ts j)
  | .ky k :: p, u, .d ts => .d (modK (setAt p u) ts k)
  | .fl f :: p, u, .o c ts => .o c (modF (setAt p u) ts f)
  | _, _, t => t
/-- where the things of a tree stand -/
def addrAt (H : Hp) : List Stp → V → Option V
  | [], v => some v
  | .ix j :: p, .ref a => (match H a with
    | some (.lst vs) => (match vs[j]? with
      | some v => addrAt H p v
      | none => none)
    | _ => none)
  | .ky k :: p, .ref a => (match H a with
    | some (.dK vs) => (match valV vs k with
      | some v => addrAt H p v
      | none => none)
    | _ => none)
  | .fl f :: p, .ref a => (match H a with
    | some (.ins _ _ vs) => (match vs.lookup f with
      | some v => addrAt H p v
      | none => none)
    | _ => none)
  | _, _ => none
section
variable {K : PySem.W.Frag} {M H : Hp}
theorem addrAt_mono {H' : Hp} (e : Hh H H') : ∀ (p : List Stp) {v w : V}, addrAt H p v = some w → addrAt H' p v = some w
  | [], v, w, h => h
  | .ix j :: p, v, w, h => by
    cases v with
    | ref a =>
      unfold addrAt at h ⊢
      cases hq : H a with
      | none => rw [hq] at h; cases h
      | some o =>
        rw [hq] at h
        cases o with
        | lst vs =>
          rw [e.to a _ hq rfl]
          simp only at h ⊢
          cases hj : vs[j]? with
          | none => rw [hj] at h; cases h
          | some u => rw [hj] at h; exact addrAt_mono e p h
        | _ => cases h
    | _ => cases h
  | .ky k :: p, v, w, h => by
    cases v with
    | ref a =>
      unfold addrAt at h ⊢
      cases hq : H a with
      | none => rw [hq] at h; cases h
      | some o =>
        rw [hq] at h
        cases o with
        | dK vs =>
          rw [e.to a _ hq rfl]
          simp only at h ⊢
          cases hj : valV vs k with
          | none => rw [hj] at h; cases h
          | some u => rw [hj] at h; exact addrAt_mono e p h
        | _ => cases h
    | _ => cases h
  | .fl f :: p, v, w, h => by
    cases v with
    | ref a =>
      unfold addrAt at h ⊢
      cases hq : H a with
      | none => rw [hq] at h; cases h
      | some o =>
        rw [hq] at h
        cases o with
        | ins C dx vs =>
          rw [e.to a _ hq rfl]
          simp only at h ⊢
          cases hj : vs.lookup f with
          | none => rw [hj] at h; cases h
          | some u => rw [hj] at h; exact addrAt_mono e p h
        | _ => cases h
    | _ => cases h
theorem RTl.foc : ∀ (ts : List Tr) {vs : List V} {f : List Addr} {j : Nat} {t : Tr}, RTl K M H vs ts f → ts[j]? = some t → ∃ v f1 f' f2, vs[j]? = some v ∧ RT K M H v t f' ∧ f = f1 ++ (f' ++ f2) ∧
    ∀ {M' H' : Hp} {g : Tr → Tr} {f'' : List Addr}, Sub M M' → (∀ a ∈ f1 ++ f2, H' a = H a) → RT K M' H' v (g t) f'' → RTl K M' H' vs (modL g ts j) (f1 ++ (f'' ++ f2))
  | [], _, _, j, _, _, h => by simp at h
  | t :: ts, _, _, 0, t', .cons (f := f) (fs := fs) r r', h => by
    simp at h
    subst h
    refine ⟨_, [], f, fs, rfl, r, rfl, fun em eh q => ?_⟩
    rw [List.nil_append]
    exact .cons q (RTl.mono em ts (fun a ha => eh a (by simpa using ha)) r')
  | t :: ts, _, _, j + 1, t', .cons (f := f) (fs := fs) r r', h => by
    obtain ⟨v, f1, f', f2, h1, h2, h3, h4⟩ := RTl.foc ts r' (j := j) (t := t') (by simpa using h)
    refine ⟨v, f ++ f1, f', f2, by simpa using h1, h2, by rw [h3, List.append_assoc], fun em eh q => ?_⟩
    rw [List.append_assoc]
    refine .cons (RT.mono em t (fun a ha => eh a (by simp [ha])) r) (h4 em (fun a ha => eh a ?_) q)
    simp only [List.mem_append] at ha ⊢
    rcases ha with ha | ha <;> simp [ha]
theorem RTd.foc : ∀ (ts : List (Key × Tr)) {vs : List (L2.Key × V)} {f : List Addr} {k : Key} {t : Tr}, RTd K M H vs ts f → lookK ts k = some t → ∃ v f1 f' f2, valV vs k = some v ∧ RT K M H v t f' ∧ f = f1 ++ (f' ++ f2) ∧
    ∀ {M' H' : Hp} {g : Tr → Tr} {f'' : List Addr}, Sub M M' → (∀ a ∈ f1 ++ f2, H' a = H a) → RT K M' H' v (g t) f'' → RTd K M' H' vs (modK g ts k) (f1 ++ (f'' ++ f2))
  | [], _, _, k, _, _, h => by cases h
  | (q, t) :: ts, _, _, k, t', .cons (v := v) (vs := vs) (f := f) (fs := fs) r r', h => by
    unfold lookK at h
    split at h
    · rename_i hq
      cases h
      refine ⟨_, [], f, fs, ?_, r, rfl, fun em eh q' => ?_⟩
      · unfold valV; rw [List.find?_cons]; simp [hq]
      · unfold modK
        rw [if_pos hq, List.nil_append]
        exact .cons q' (RTd.mono em ts (fun a ha => eh a (by simpa using ha)) r')
    · rename_i hq
      obtain ⟨v', f1, f', f2, h1, h2, h3, h4⟩ := RTd.foc ts r' h
      refine ⟨v', f ++ f1, f', f2, ?_, h2, by rw [h3, List.append_assoc], fun em eh q' => ?_⟩
      · unfold valV at h1 ⊢; rw [List.find?_cons]; simp [hq, h1]
      · unfold modK
        rw [if_neg hq, List.append_assoc]
        refine .cons (RT.mono em t (fun a ha => eh a (by simp [ha])) r) (h4 em (fun a ha => eh a ?_) q')
        simp only [List.mem_append] at ha ⊢
        rcases ha with ha | ha <;> simp [ha]
theorem RTo.foc : ∀ (ts : List (Str × Tr)) {vs : List (Str × V)} {f : List Addr} {k : Str} {t : Tr}, RTo K M H vs ts f → lookF ts k = some t → ∃ v f1 f' f2, vs.lookup k = some v ∧ RT K M H v t f' ∧ f = f1 ++ (f' ++ f2) ∧
    ∀ {M' H' : Hp} {g : Tr → Tr} {f'' : List Addr}, Sub M M' → (∀ a ∈ f1 ++ f2, H' a = H a) → RT K M' H' v (g t) f'' → RTo K M' H' vs (modF g ts k) (f1 ++ (f'' ++ f2))
  | [], _, _, k, _, _, h => by cases h
  | (q, t) :: ts, _, _, k, t', .cons (v := v) (vs := vs) (f := f) (fs := fs) r r', h => by
    unfold lookF at h
    split at h
    · rename_i hq
      cases h
      subst hq
      refine ⟨_, [], f, fs, by rw [List.lookup_cons]; simp, r, rfl, fun em eh q' => ?_⟩
      unfold modF
      rw [if_pos rfl, List.nil_append]
      exact .cons q' (RTo.mono em ts (fun a ha => eh a (by simpa using ha)) r')
    · rename_i hq
      obtain ⟨v', f1, f', f2, h1, h2, h3, h4⟩ := RTo.foc ts r' h
      refine ⟨v', f ++ f1, f', f2, ?_, h2, by rw [h3, List.append_assoc], fun em eh q' => ?_⟩
      · rw [List.lookup_cons]
        have : (k == q) = false := by rw [beq_eq_false_iff_ne]; exact fun z => hq z.symm
        rw [this]; exact h1
      · unfold modF
        rw [if_neg hq, List.append_assoc]
        refine .cons (RT.mono em t (fun a ha => eh a (by simp [ha])) r) (h4 em (fun a ha => eh a ?_) q')
        simp only [List.mem_append] at ha ⊢
        rcases ha with ha | ha <;> simp [ha]
theorem RT.foc : ∀ (p : List Stp) {v : V} {t t' : Tr} {f : List Addr}, RT K M H v t f → getAt p t = some t' → ∃ v' f1 f' f2, addrAt H p v = some v' ∧ RT K M H v' t' f' ∧ f = f1 ++ (f' ++ f2) ∧
    ∀ {M' H' : Hp} {u : Tr} {f'' : List Addr}, Sub M M' → (∀ a ∈ f1 ++ f2, H' a = H a) → RT K M' H' v' u f'' → RT K M' H' v (setAt p u t) (f1 ++ (f'' ++ f2))
  | [], w, t, t', f, r, h => by
    cases h
    refine ⟨w, [], f, [], rfl, r, by simp, fun em eh q => ?_⟩
    show RT K _ _ w _ ([] ++ (_ ++ []))
    rw [List.nil_append, List.append_nil]
    exact q
  | .ix j :: p, _, _, t', _, .l (a := a) (vs := vs) (ts := ts) ha r, h => by
    unfold getAt at h
    split at h
    · rename_i t hj
      obtain ⟨v, f1, f', f2, h1, h2, h3, h4⟩ := RTl.foc ts r hj
      obtain ⟨v', g1, g', g2, k1, k2, k3, k4⟩ := RT.foc p h2 h
      subst k3; subst h3
      refine ⟨v', a :: (f1 ++ g1), g', g2 ++ f2, by unfold addrAt; rw [ha]; simp only [h1]; exact k1, k2, by simp, fun {M' H' u f''} em eh q => ?_⟩
      have hR := h4 (M' := M') (H' := H') (g := setAt p u) (f'' := g1 ++ (f'' ++ g2)) em (fun b hb => eh b (by simp only [List.mem_append] at hb; simp only [List.cons_append, List.mem_cons, List.mem_append]; rcases hb with hb | hb <;> simp [hb])) (k4 em (fun b hb => eh b (by simp only [List.mem_append] at hb; simp only [List.cons_append, List.mem_cons, List.mem_append]; rcases hb with hb | hb <;> simp [hb])) q)
      have := RT.l (K := K) (M := M') (H := H') (by rw [eh a (by simp)]; exact ha) hR
      show RT K M' H' (V.ref a) (.l (modL (setAt p u) ts j)) _
      simpa [List.append_assoc] using this
    · cases h
  | .ky k :: p, _, _, t', _, .d (a := a) (vs := vs) (ts := ts) ha r, h => by
    unfold getAt at h
    split at h
    · rename_i t hj
      obtain ⟨v, f1, f', f2, h1, h2, h3, h4⟩ := RTd.foc ts r hj
      obtain ⟨v', g1, g', g2, k1, k2, k3, k4⟩ := RT.foc p h2 h
      subst k3; subst h3
      refine ⟨v', a :: (f1 ++ g1), g', g2 ++ f2, by unfold addrAt; rw [ha]; simp only [h1]; exact k1, k2, by simp, fun {M' H' u f''} em eh q => ?_⟩
      have hR := h4 (M' := M') (H' := H') (g := setAt p u) (f'' := g1 ++ (f'' ++ g2)) em (fun b hb => eh b (by simp only [List.mem_append] at hb; simp only [List.cons_append, List.mem_cons, List.mem_append]; rcases hb with hb | hb <;> simp [hb])) (k4 em (fun b hb => eh b (by simp only [List.mem_append] at hb; simp only [List.cons_append, List.mem_cons, List.mem_append]; rcases hb with hb | hb <;> simp [hb])) q)
      have := RT.d (K := K) (M := M') (H := H') (by rw [eh a (by simp)]; exact ha) hR
      show RT K M' H' (V.ref a) (.d (modK (setAt p u) ts k)) _
      simpa [List.append_assoc] using this
    · cases h
  | .fl k :: p, _, _, t', _, .o (a := a) (dx := dx) (c := c) (vs := vs) (ts := ts) ha hd r, h => by
    unfold getAt at h
    split at h
    · rename_i t hj
      obtain ⟨v, f1, f', f2, h1, h2, h3, h4⟩ := RTo.foc ts r hj
      obtain ⟨v', g1, g', g2, k1, k2, k3, k4⟩ := RT.foc p h2 h
      subst k3; subst h3
      refine ⟨v', a :: dx :: (f1 ++ g1), g', g2 ++ f2, by unfold addrAt; rw [ha]; simp only [h1]; exact k1, k2, by simp, fun {M' H' u f''} em eh q => ?_⟩
      have hR := h4 (M' := M') (H' := H') (g := setAt p u) (f'' := g1 ++ (f'' ++ g2)) em (fun b hb => eh b (by simp only [List.mem_append] at hb; simp only [List.cons_append, List.mem_cons, List.mem_append]; rcases hb with hb | hb <;> simp [hb])) (k4 em (fun b hb => eh b (by simp only [List.mem_append] at hb; simp only [List.cons_append, List.mem_cons, List.mem_append]; rcases hb with hb | hb <;> simp [hb])) q)
      have := RT.o (K := K) (M := M') (H := H') (by rw [eh a (by simp)]; exact ha) (by rw [eh dx (by simp)]; exact hd) hR
      show RT K M' H' (V.ref a) (.o c (modF (setAt p u) ts k)) _
      simpa [List.append_assoc] using this
    · cases h
  | .ix _ :: _, _, _, _, _, .v _, h => by cases h
  | .ix _ :: _, _, _, _, _, .d _ _, h => by cases h
  | .ix _ :: _, _, _, _, _, .dT _ _, h => by cases h
  | .ix _ :: _, _, _, _, _, .o _ _ _, h => by cases h
  | .ky _ :: _, _, _, _, _, .v _, h => by cases h
  | .ky _ :: _, _, _, _, _, .l _ _, h => by cases h
  | .ky _ :: _, _, _, _, _, .dT _ _, h => by cases h
  | .ky _ :: _, _, _, _, _, .o _ _ _, h => by cases h
  | .fl _ :: _, _, _, _, _, .v _, h => by cases h
  | .fl _ :: _, _, _, _, _, .l _ _, h => by cases h
  | .fl _ :: _, _, _, _, _, .d _ _, h => by cases h
  | .fl _ :: _, _, _, _, _, .dT _ _, h => by cases h
end
section
variable {K : PySem.W.Frag} {C : Cn} {B : Bs} {M H : Hp} {σ : L2.St} {env : Env} {fs : List Addr} {D : Ends}
def mkT : Bool → Tr → Slot
  | false, t => .oT t
  | true, t => .me t
theorem SlR1.tree {me : V} {s : Option V} {b : Bool} {t : Tr} {f : List Addr} (h : SlR1 K me M H s (mkT b t) f) : ∃ v, s = some v ∧ RT K M H v t f ∧ ∀ {M' H' : Hp} {t' : Tr} {f' : List Addr}, RT K M' H' v t' f' → SlR1 K me M' H' (some v) (mkT b t') f' := by
  cases b with
  | false =>
    cases h with
    | oT r => exact ⟨_, rfl, r, fun q => .oT q⟩
  | true =>
    cases h with
    | me r => exact ⟨_, rfl, r, fun q => .me q⟩
/-- what a call at f' leaves as it was -/
structure Out (f' : List Addr) (H H' : Hp) : Prop where
  to : ∀ a, a ∉ f' → ∀ o, H a = some o → ntb o = true → H' a = some o
  ne : ∀ a, a ∉ f' → H' a = none → H a = none
  tt : LamX.Tabs TabsOf.T H'
theorem Out.of {f' : List Addr} {H H' : Hp} (t : LamX.Tabs TabsOf.T H) (hk : ∀ a ∈ f', ∃ o, H a = some o ∧ OwnO o) (e : ∀ a, a ∉ f' → ∀ o, H a = some o → H' a = some o) : Out f' H H' := by
  refine ⟨fun a h o q _ => e a h o q, fun a h q => ?_, fun p hp => ?_⟩
  · cases z : H a with
    | none => rfl
    | some o => rw [e a h o z] at q; cases q
  · obtain ⟨ps, h1, h2, h3⟩ := t p hp
    refine ⟨ps, e _ (fun z => ?_) _ h1, h2, fun pos cv hc => ?_⟩
    · obtain ⟨o, q, r⟩ := hk _ z
      rw [h1] at q; cases q; exact r
    · obtain ⟨c, e1, e2⟩ := h3 pos cv hc
      refine ⟨c, e1, e _ (fun z => ?_) _ e2⟩
      obtain ⟨o, q, r⟩ := hk _ z
      rw [e2] at q; cases q; exact r
/-- a place of a slot's tree, and how it changes -/
theorem SR.focO (S : SR K B M H σ env fs) {i : Nat} {b : Bool} {t t' : Tr} {p : List Stp} (hi : env[i]? = some (mkT b t)) (hg : getAt p t = some t') : ∃ v0 v' f', σ[i]? = some (some v0) ∧ addrAt H p v0 = some v' ∧ RT K M H v' t' f' ∧ f'.Nodup ∧ (∀ a ∈ f', a ∈ fs) ∧
    ∀ {H' : Hp} {u : Tr} {f'' : List Addr}, Out f' H H' → RT K M H' v' u f'' → f''.Nodup → (∀ a ∈ f'', a ∈ f' ∨ H a = none) → ∃ fs', SR K B M H' σ (env.set i (mkT b (setAt p u t))) fs' := by
  obtain ⟨s0, g1, f, g2, h1, h2, h3, h4⟩ := S.sl.at hi
  obtain ⟨v, rfl, r, mk⟩ := h3.tree
  obtain ⟨v', f1, f', f2, k1, k2, k3, k4⟩ := RT.foc p r hg
  subst k3
  have nd := S.nd
  rw [h2] at nd
  have nd2 : (f1 ++ (f' ++ f2)).Nodup := (List.nodup_append.mp (List.nodup_append.mp nd).2.1).1
  have nd3 : f'.Nodup := (List.nodup_append.mp (List.nodup_append.mp nd2).2.1).1
  have sub : ∀ a ∈ f', a ∈ fs := fun a ha => by rw [h2]; simp [ha]
  refine ⟨v, v', f', h1, k1, k2, nd3, sub, fun {H' u f''} eh q nq fr => ?_⟩
  have hset : σ.set i (some v) = σ := by
    obtain ⟨hl, he⟩ := List.getElem?_eq_some_iff.mp h1
    rw [← he, List.set_getElem_self]
  have out : ∀ a, a ∈ fs → a ∉ f' → H' a = H a := fun a ha hn => by
    obtain ⟨o, hq, ho⟩ := S.sl.kinds a ha
    rw [hq, eh.to a hn o hq (own_ntb ho)]
  have n1 : ∀ a ∈ f1 ++ f2, a ∉ f' := fun a ha hb => by
    rcases List.mem_append.mp ha with ha | ha
    · exact (List.nodup_append.mp nd2).2.2 a ha a (by simp [hb]) rfl
    · exact (List.nodup_append.mp (List.nodup_append.mp nd2).2.1).2.2 a hb a ha rfl
  have n2 : ∀ a ∈ g1 ++ g2, a ∉ f1 ++ (f' ++ f2) := fun a ha hb => by
    rcases List.mem_append.mp ha with ha | ha
    · exact (List.nodup_append.mp nd).2.2 a ha a (List.mem_append_left _ hb) rfl
    · exact (List.nodup_append.mp (List.nodup_append.mp nd).2.1).2.2 a hb a ha rfl
  have q2 := k4 (M' := M) (H' := H') (Same.refl _) (fun a ha => out a (by
    rw [h2]
    simp only [List.mem_append] at ha ⊢
    rcases ha with ha | ha <;> simp [ha]) (n1 a ha)) q
  have hsl := h4 (M' := M) (H' := H') (s' := some v) (e' := mkT b (setAt p u t)) (f' := f1 ++ (f'' ++ f2)) (Same.refl _) (fun a ha => out a (by
    rw [h2]
    simp only [List.mem_append] at ha ⊢
    rcases ha with ha | ha <;> simp [ha]) fun hb => n2 a ha (by simp [hb])) (mk q2)
  rw [hset] at hsl
  have newf : ∀ a ∈ f'', a ∈ fs → a ∈ f' := fun a ha hb => by
    rcases fr a ha with h | h
    · exact h
    · exact absurd h (S.sl.known a hb)
  refine ⟨_, ⟨⟨fun b o qq nq => ?_, fun b qq => ?_⟩, S.g.nn, ⟨fun b o qq => ?_, eh.tt, S.g.nh.nt⟩, S.g.nw⟩, S.lo, fun a ha => ?_, ?_, hsl⟩
  · refine eh.to b (fun hb => ?_) o (S.g.hh.to b o qq nq) nq
    rw [(S.fr b (sub b hb)).2] at qq; cases qq
  · by_cases hb : b ∈ f'
    · exact (S.fr b (sub b hb)).2
    · exact S.g.hh.ne b (eh.ne b hb qq)
  · refine eh.to b (fun hb => ?_) o (S.g.nh b o qq) (S.g.nh.nt b o qq)
    rw [(S.fr b (sub b hb)).1] at qq; cases qq
  · have : a ∈ fs ∨ a ∈ f'' := by
      rw [h2]
      simp only [List.mem_append] at ha ⊢
      rcases ha with ha | (ha | ha | ha) | ha <;> simp [ha]
    rcases this with h | h
    · exact S.fr a h
    · rcases fr a h with h' | h'
      · exact S.fr a (sub a h')
      · refine ⟨?_, S.g.hh.free h'⟩
        cases hq : M a with
        | none => rfl
        | some o => have := S.g.nh a o hq; rw [h'] at this; cases this
  · refine nodup_mid nd ?_ fun a ha hb => ?_
    · refine nodup_mid nd2 nq fun a ha hb => ?_
      exact n1 a hb (newf a ha (by
        rw [h2]
        simp only [List.mem_append] at hb ⊢
        rcases hb with hb | hb <;> simp [hb]))
    · simp only [List.mem_append] at ha
      have hfs : a ∈ fs := by
        rw [h2]
        simp only [List.mem_append] at hb ⊢
        rcases hb with hb | hb <;> simp [hb]
      rcases ha with ha | ha | ha
      · exact n2 a hb (by simp [ha])
      · exact n2 a hb (by simp [newf a ha hfs])
      · exact n2 a hb (by simp [ha])
theorem SR.foc (S : SR K B M H σ env fs) {i : Nat} {b : Bool} {t t' : Tr} {p : List Stp} (hi : env[i]? = some (mkT b t)) (hg : getAt p t = some t') : ∃ v0 v' f', σ[i]? = some (some v0) ∧ addrAt H p v0 = some v' ∧ RT K M H v' t' f' ∧ f'.Nodup ∧ (∀ a ∈ f', a ∈ fs) ∧
    ∀ {H' : Hp} {u : Tr} {f'' : List Addr}, (∀ a, a ∉ f' → ∀ o, H a = some o → H' a = some o) → RT K M H' v' u f'' → f''.Nodup → (∀ a ∈ f'', a ∈ f' ∨ H a = none) → ∃ fs', SR K B M H' σ (env.set i (mkT b (setAt p u t))) fs' := by
  obtain ⟨v0, v', f', h1, h2, h3, h4, h5, h6⟩ := S.focO hi hg
  exact ⟨v0, v', f', h1, h2, h3, h4, h5, fun e => h6 (Out.of S.g.nh.tt (fun a ha => S.sl.kinds a (h5 a ha)) e)⟩
/-- a slot gets a new tree of its own -/
theorem SR.putT (S : SR K B M H σ env fs) {i : Nat} (hi : i < env.length) {v : V} {t : Tr} {f : List Addr} {H' : Hp} (e : Hh H H') (tt : LamX.Tabs TabsOf.T H') (r : RT K M H' v t f) (nd : f.Nodup) (fr : ∀ a ∈ f, H a = none) : ∃ fs', SR K B M H' (σ.set i (some v)) (env.set i (.oT t)) fs' := by
  obtain ⟨s0, f1, f0, f2, h1, h2, h3, h4⟩ := S.sl.at (List.getElem?_eq_getElem hi)
  have out : ∀ a, a ∈ fs → H' a = H a := fun a ha => by
    obtain ⟨o, hq, ho⟩ := S.sl.kinds a ha
    rw [hq, e.to a o hq (own_ntb ho)]
  have hsl := h4 (M' := M) (H' := H') (s' := some v) (e' := .oT t) (f' := f) (Same.refl _) (fun a ha => out a (by
    rw [h2]
    simp only [List.mem_append] at ha ⊢
    rcases ha with ha | ha <;> simp [ha])) (.oT r)
  refine ⟨_, ⟨S.g.hh.trans e, S.g.nn, ⟨fun b o q => e.to b o (S.g.nh b o q) (S.g.nh.nt b o q), tt, S.g.nh.nt⟩, S.g.nw⟩, S.lo, fun a ha => ?_, ?_, hsl⟩
  · have : a ∈ fs ∨ a ∈ f := by
      rw [h2]
      simp only [List.mem_append] at ha ⊢
      rcases ha with ha | ha | ha <;> simp [ha]
    rcases this with h | h
    · exact S.fr a h
    · refine ⟨?_, S.g.hh.free (fr a h)⟩
      cases hq : M a with
      | none => rfl
      | some o => have := S.g.nh a o hq; rw [fr a h] at this; cases this
  · refine nodup_mid (by rw [← h2]; exact S.nd) nd fun a ha hb => ?_
    refine absurd (fr a ha) (S.sl.known a ?_)
    rw [h2]
    simp only [List.mem_append] at hb ⊢
    rcases hb with hb | hb <;> simp [hb]
inductive Pl where
  | s (i : Nat)
  | ix (p : Pl) (k : EX)
  | fl (p : Pl) (c f : Str)
/-- a step's index, the tree ahead of it told -/
def stpOf (t : Tr) (x : Val) : Res Stp := match t, x with
  | .l ts, .int n => (match ixNat ts.length n with
    | some j => .ok (.ix j)
    | none => .bad)
  | .d _, x => (match keyOfV x with
    | some k => .ok (.ky k)
    | none => .bad)
  | _, _ => .bad
def plAt : Pl → Env → Res (Nat × List Stp × Tr)
  | .s i, env => (match env[i]? with
    | some (.oT t) => .ok (i, [], t)
    | some (.me t) => .ok (i, [], t)
    | _ => .bad)
  | .ix p k, env => (plAt p env).bind fun q => (k env).nx.bind fun x => (stpOf q.2.2 x).bind fun s => match getAt [s] q.2.2 with
    | some t => .ok (q.1, q.2.1 ++ [s], t)
    | none => .bad
  | .fl p c f, env => (plAt p env).bind fun q => match q.2.2 with
    | .o c' fs => if c' = c then (match lookF fs f with
      | some t => .ok (q.1, q.2.1 ++ [.fl f], t)
      | none => .bad) else .bad
    | _ => .bad
theorem getAt_append : ∀ (p : List Stp) {q : List Stp} {t t' t'' : Tr}, getAt p t = some t' → getAt q t' = some t'' → getAt (p ++ q) t = some t''
  | [], q, t, t', t'', h, h' => by cases h; exact h'
  | .ix j :: p, q, .l ts, t', t'', h, h' => by
    unfold getAt at h
    split at h
    · rename_i u hj
      show getAt (.ix j :: (p ++ q)) (.l ts) = _
      unfold getAt
      rw [hj]
      exact getAt_append p h h'
    · cases h
  | .ky j :: p, q, .d ts, t', t'', h, h' => by
    unfold getAt at h
    split at h
    · rename_i u hj
      show getAt (.ky j :: (p ++ q)) (.d ts) = _
      unfold getAt
      rw [hj]
      exact getAt_append p h h'
    · cases h
  | .fl j :: p, q, .o c ts, t', t'', h, h' => by
    unfold getAt at h
    split at h
    · rename_i u hj
      show getAt (.fl j :: (p ++ q)) (.o c ts) = _
      unfold getAt
      rw [hj]
      exact getAt_append p h h'
    · cases h
  | .ix _ :: _, _, .v _, _, _, h, _ => by cases h
  | .ix _ :: _, _, .d _, _, _, h, _ => by cases h
  | .ix _ :: _, _, .dT _, _, _, h, _ => by cases h
  | .ix _ :: _, _, .o _ _, _, _, h, _ => by cases h
  | .ky _ :: _, _, .v _, _, _, h, _ => by cases h
  | .ky _ :: _, _, .l _, _, _, h, _ => by cases h
  | .ky _ :: _, _, .dT _, _, _, h, _ => by cases h
  | .ky _ :: _, _, .o _ _, _, _, h, _ => by cases h
  | .fl _ :: _, _, .v _, _, _, h, _ => by cases h
  | .fl _ :: _, _, .l _, _, _, h, _ => by cases h
  | .fl _ :: _, _, .d _, _, _, h, _ => by cases h
  | .fl _ :: _, _, .dT _, _, _, h, _ => by cases h
theorem addrAt_append (H : Hp) : ∀ (p : List Stp) {q : List Stp} {v w u : V}, addrAt H p v = some w → addrAt H q w = some u → addrAt H (p ++ q) v = some u
  | [], q, v, w, u, h, h' => by cases h; exact h'
  | .ix j :: p, q, .ref a, w, u, h, h' => by
    show addrAt H (.ix j :: (p ++ q)) (.ref a) = _
    unfold addrAt at h ⊢
    split at h
    · rename_i vs hq
      split at h
      · rename_i x hx
        exact addrAt_append H p h h'
      · cases h
    · cases h
  | .ky j :: p, q, .ref a, w, u, h, h' => by
    show addrAt H (.ky j :: (p ++ q)) (.ref a) = _
    unfold addrAt at h ⊢
    split at h
    · rename_i vs hq
      split at h
      · rename_i x hx
        exact addrAt_append H p h h'
      · cases h
    · cases h
  | .fl j :: p, q, .ref a, w, u, h, h' => by
    show addrAt H (.fl j :: (p ++ q)) (.ref a) = _
    unfold addrAt at h ⊢
    split at h
    · rename_i vs hq
      split at h
      · rename_i x hx
        exact addrAt_append H p h h'
      · cases h
    · cases h
/-- a place's address: where it stands in the slot's tree -/
def EvPl (K : PySem.W.Frag) (tp : TE) (p : Pl) : Prop := ∀ B M H σ env fs, SR K B M H σ env fs → ∀ (Q : VK) (i : Nat) (π : List Stp) (t' : Tr), plAt p env = .ok (i, π, t') →
  (∃ b t, env[i]? = some (mkT b t) ∧ getAt π t = some t') ∧
  ((∀ M' H' v0 v', SR K B M' H' σ env fs → Hh H H' → Sub M M' → σ[i]? = some (some v0) → addrAt H' π v0 = some v' → Q v' H') → tp σ H Q)
theorem epl_s {i : Nat} : EvPl K (tVar i) (.s i) := fun B M H σ env fs S Q j π t' h => by
  have main : ∀ (b : Bool) (t : Tr), env[i]? = some (mkT b t) → (Res.ok (i, [], t) : Res (Nat × List Stp × Tr)) = .ok (j, π, t') → (∃ b t, env[j]? = some (mkT b t) ∧ getAt π t = some t') ∧ ((∀ M' H' v0 v', SR K B M' H' σ env fs → Hh H H' → Sub M M' → σ[j]? = some (some v0) → addrAt H' π v0 = some v' → Q v' H') → (tVar i) σ H Q) := by
    intro b t ht h
    cases h
    refine ⟨⟨b, t', ht, rfl⟩, fun k => ?_⟩
    obtain ⟨v0, v', f', h1, h2, _⟩ := S.foc ht (p := []) rfl
    cases h2
    exact ⟨v0, h1, k _ H v0 v0 S (Hh.refl _) (Same.refl _) h1 rfl⟩
  unfold plAt at h
  split at h
  · rename_i t ht; exact main false t ht h
  · rename_i t ht; exact main true t ht h
  · cases h
theorem epl_fl {tp : TE} {p : Pl} {c f : Str} (hp : EvPl K tp p) (hc : Cls K (He.ga K c)) (hn : NoAttr K (He.ga K c) f) : EvPl K (tFld K tp f) (.fl p c f) := fun B M H σ env fs S Q i π t'' h => by
  unfold plAt at h
  cases h1 : plAt p env with
  | bad => rw [h1] at h; cases h
  | exc q => rw [h1] at h; cases h
  | ok q =>
    obtain ⟨j, π0, t'⟩ := q
    rw [h1] at h
    simp only [Res.bind_ok] at h
    split at h
    case h_2 => cases h
    rename_i c' fts
    split at h
    case isFalse => cases h
    rename_i hcc
    subst hcc
    split at h
    case h_2 => cases h
    rename_i t2 hl
    cases h
    obtain ⟨⟨bb, t, ht, hg⟩, hrun⟩ := hp B M H σ env fs S (fun x H1 => ∃ a C dx fs v, x = .ref a ∧ H1 a = some (.ins C dx fs) ∧ Cls K C ∧ NoAttr K C f ∧ fs.lookup f = some v ∧ Q v H1) _ π0 _ h1
    have hg2 : getAt [.fl f] (.o c' fts) = some t'' := by unfold getAt; rw [hl]; rfl
    refine ⟨⟨bb, t, ht, getAt_append π0 hg hg2⟩, fun kk => hrun fun M1 H1 v0 v1 S1 e1 m1 hv0 ha1 => ?_⟩
    obtain ⟨v0', v1', f', k1, k2, k3, k4, k5, _⟩ := S1.foc ht hg
    rw [hv0] at k1; cases k1
    rw [ha1] at k2; cases k2
    cases k3 with
    | @o a dx _ vs _ f0 ho hd ro =>
      obtain ⟨u, f1, f', f2, q1, q2, q3, q4⟩ := RTo.foc fts ro hl
      refine ⟨a, He.ga K c', dx, vs, u, rfl, ho, hc, hn, q1, kk M1 H1 v0 u S1 e1 m1 hv0 (addrAt_append H1 π0 ha1 ?_)⟩
      unfold addrAt
      rw [ho]
      simp only [q1]
      rfl
end
end Vm
namespace Vm
open PySem L2 PyProof.Rows
variable [TabsOf]
def putPl (env : Env) (i : Nat) (π : List Stp) (u : Tr) : Flow := match env[i]? with
  | some (.oT t) => .next (env.set i (.oT (setAt π u t)))
  | some (.me t) => .next (env.set i (.me (setAt π u t)))
  | _ => .bad
theorem putPl_at {env : Env} {i : Nat} {π : List Stp} {u t : Tr} {b : Bool} (h : env[i]? = some (mkT b t)) : putPl env i π u = .next (env.set i (mkT b (setAt π u t))) := by
  unfold putPl
  rw [h]
  cases b <;> rfl
/-- P.append(e), e nothing that may still change | no list in it -/
def sAtApp (p : Pl) (m : EX) : ST := fun env => (plAt p env).nx.flow env fun q => match q.2.2 with
  | .l ts => (m (hide env)).flow env fun x => if ts.length < 16777216 then putPl env q.1 q.2.1 (.l (ts ++ [.v x])) else .bad
  | _ => .bad
def insT (ts : List Tr) (n : Nat) (x : Tr) : List Tr := ts.take n ++ [x] ++ ts.drop n
/-- a new tree of the slot's own -/
abbrev ET := Env → Res Tr
def sOwnT (i : Nat) (m : ET) : ST := fun env => (m (hide env)).flow env fun t => if i < env.length then .next (env.set i (.oT t)) else .bad
section
variable {K : PySem.W.Frag} {C : Cn} {B : Bs} {M H : Hp} {σ : L2.St} {env : Env} {fs : List Addr} {D : Ends}
theorem RTl.length : ∀ {ts : List Tr} {vs : List V} {f : List Addr}, RTl K M H vs ts f → vs.length = ts.length
  | [], _, _, .nil => rfl
  | _ :: _, _, _, .cons _ r => congrArg (· + 1) r.length
theorem RTl.append : ∀ {ts us : List Tr} {vs ws : List V} {f g : List Addr}, RTl K M H vs ts f → RTl K M H ws us g → RTl K M H (vs ++ ws) (ts ++ us) (f ++ g)
  | [], _, _, _, _, _, .nil, s => s
  | _ :: _, _, _, _, _, _, .cons h r, s => by rw [List.append_assoc]; exact .cons h (r.append s)
theorem RTl.ofV : ∀ {ys : List Val} {vs : List V}, RVs K M vs ys → RTl K M H vs (ys.map .v) []
  | _, _, .nil => .nil
  | _, _, .cons h r => .cons (f := []) (fs := []) (.v h) (RTl.ofV r)
theorem RTl.ins {v : V} {x : Val} (h : RV K M v x) : ∀ {n : Nat} {ts : List Tr} {vs : List V} {f : List Addr}, RTl K M H vs ts f → RTl K M H (vs.take n ++ [v] ++ vs.drop n) (insT ts n (.v x)) f
  | 0, ts, vs, f, r => by
    show RTl K M H ([] ++ [v] ++ vs) ([] ++ [Tr.v x] ++ ts) f
    exact .cons (f := []) (.v h) r
  | n + 1, [], _, _, .nil => .cons (f := []) (fs := []) (.v h) .nil
  | n + 1, _ :: _, _, _, .cons q r => .cons q (RTl.ins h r)
/-- all together: behind what was evaluated the place's list is written -/
theorem SR.atL (S : SR K B M H σ env fs) {i : Nat} {t : Tr} {ts : List Tr} {p : List Stp} {bb : Bool} (hi : env[i]? = some (mkT bb t)) (hg : getAt p t = some (.l ts)) {v0 v' : V} (h1 : σ[i]? = some (some v0)) (h2 : addrAt H p v0 = some v') : ∃ a vs f, v' = .ref a ∧ H a = some (.lst vs) ∧ RTl K M H vs ts f ∧ a ∉ f ∧ f.Nodup ∧ (∀ b ∈ f, H b ≠ none) ∧
    ∀ {Hn : Hp} {ws : List V} {ts' : List Tr} {f'' : List Addr}, Sub H Hn → RTl K M Hn ws ts' f'' → (a ∉ f'' ∧ f''.Nodup) → (∀ b ∈ f'', b ∈ f ∨ H b = none) → ∃ fs', SR K B M (upd Hn a (.lst ws)) σ (env.set i (mkT bb (setAt p (.l ts') t))) fs' := by
  obtain ⟨v0', v'', f', k1, k2, k3, k4, k5, h6⟩ := S.foc hi hg
  rw [h1] at k1; cases k1
  rw [h2] at k2; cases k2
  cases k3 with
  | @l a vs _ f ha r =>
    have nd := List.nodup_cons.mp k4
    refine ⟨a, vs, f, rfl, ha, r, nd.1, nd.2, fun b hb => by obtain ⟨o, q, _⟩ := RTl.kinds ts r b hb; rw [q]; simp, fun {Hn ws ts' f''} e q nd fr => ?_⟩
    have q' := RTl.mono (M' := M) (H' := upd Hn a (.lst ws)) (Same.refl _) ts' (fun b hb => upd_ne fun z => nd.1 (z ▸ hb)) q
    refine h6 (H' := upd Hn a (.lst ws)) (u := .l ts') (f'' := a :: f'') (fun b hb o qq => ?_) (.l upd_same q') (List.nodup_cons.mpr nd) (fun b hb => ?_)
    · rw [upd_ne fun z => hb (by rw [z]; exact List.mem_cons_self)]
      exact e b o qq
    · rcases List.mem_cons.mp hb with rfl | hb
      · exact .inl List.mem_cons_self
      · rcases fr b hb with h | h
        · exact .inl (List.mem_cons_of_mem _ h)
        · exact .inr h
/-- a place, then what is done there -/
theorem pl_run {tp : TE} {p : Pl} (hp : EvPl K tp p) (S : SR K B M H σ env fs) {Q : VK} {f : Nat × List Stp × Tr → Flow} (h : PostF K C B D ((plAt p env).nx.flow env f))
    (k : ∀ i π t' bb t M' H' v0 v', plAt p env = .ok (i, π, t') → env[i]? = some (mkT bb t) → getAt π t = some t' → SR K B M' H' σ env fs → σ[i]? = some (some v0) → addrAt H' π v0 = some v' → PostF K C B D (f (i, π, t')) → Q v' H') : tp σ H Q := by
  cases h1 : plAt p env with
  | bad => rw [h1] at h; exact h.elim
  | exc q => rw [h1] at h; exact h.elim
  | ok q =>
    obtain ⟨i, π, t'⟩ := q
    rw [h1] at h
    obtain ⟨⟨bb, t, ht, hg⟩, hrun⟩ := hp B M H σ env fs S Q i π t' h1
    exact hrun fun M' H' v0 v' S' _ _ a b => k i π t' bb t M' H' v0 v' h1 ht hg S' a b h
theorem es_atApp {tp te : TE} {p : Pl} {m : EX} (hp : EvPl K tp p) (ha : EvE K C te m) : EvS K C (tDrop (tBM K "list" rAppend tp (tCons te tNil))) (sAtApp p m) := fun B M H σ env fs S D h => by
  refine pl_run hp S h fun i π t' bb t M1 H1 v0 v' _ ht hg S1 hv hw h => ?_
  cases t' with
  | l ts =>
    obtain ⟨a, vs, f, rfl, k1, _⟩ := S1.atL ht hg hv hw
    refine ⟨.inl ⟨rfl, vs, SqL.of k1⟩, ?_⟩
    refine ha M1 H1 σ (hide env) S1.g.nh S1.sl.hid _ (post_hid S1 h fun x M2 H2 _ g S2 hq v rv => ?_)
    obtain ⟨hl, hq⟩ := PostF.ite hq
    obtain ⟨a', vs', f', e1, e2, e3, e4, e5, e6, e7⟩ := S2.atL ht hg hv (addrAt_mono g.hh π hw)
    cases e1
    refine ⟨a, vs', v, rfl, rfl, e2, by rw [line_eq, e3.length]; exact hl, ?_⟩
    obtain ⟨fs', S3⟩ := e7 (ws := vs' ++ [v]) (ts' := ts ++ [.v x]) (f'' := f' ++ []) (Same.refl _) (e3.append (.cons (f := []) (fs := []) (.v rv) .nil)) (by rw [List.append_nil]; exact ⟨e4, e5⟩) (fun b hb => .inl (by simpa using hb))
    rw [putPl_at ht] at hq
    exact hq _ _ σ fs' S3
  | _ => exact h.elim
/-- a new tree -/
def EvT (K : PySem.W.Frag) (C : Cn) (te : TE) (m : ET) : Prop := ∀ N H σ env, Inn N H → SV K N σ env → ∀ Q : VK, PostR C σ N H (m env) (fun t N' H' => ∀ v H'' f, Sub H' H'' → RT K N' H'' v t f → f.Nodup → (∀ a ∈ f, H' a = none) → Q v H'') → te σ H Q
theorem es_ownT {te : TE} {m : ET} {i : Nat} (ha : EvT K C te m) : EvS K C (tAsg te (gName i)) (sOwnT i m) := fun B M H σ env fs S D h => by
  refine ha M H σ (hide env) S.g.nh S.sl.hid _ (post_hid S h fun t M' H' _ g S' hx v H'' f e r nd fr => ?_)
  obtain ⟨hi, hx⟩ := PostF.ite hx
  obtain ⟨fs', S2⟩ := S'.putT hi (.of e) (S'.g.nh.tt.ext e) r nd fr
  exact hx M' _ _ fs' S2
theorem SR.set_un (S : SR K B M H σ env fs) {j : Nat} (hj : j < env.length) (s : Option V) : ∃ fs', SR K B M H (σ.set j s) (env.set j .un) fs' := S.put hj (.un s)
end
end Vm
namespace Vm
open PySem L2 PyProof.Rows
variable [TabsOf]
def tOfL (m : EX) : ET := fun env => (m env).bind fun
  | .lst xs => .ok (.l (xs.map .v))
  | _ => .bad
section
variable {K : PySem.W.Frag} {C : Cn}
theorem et_ofL {te : TE} {m : EX} (ha : EvF K C te m) : EvT K C te (tOfL m) := fun N H σ env e s Q h => by
  refine ha N H σ env e s _ (PostR.imp (PostR.bind h) fun x N1 H1 g1 h1 => ?_)
  cases x with
  | lst xs =>
    refine ⟨xs, rfl, fun p vs hp rvs => ?_⟩
    exact h1 N1 H1 (Gr.refl g1.nh) (.ref p) (upd H1 p (.lst vs)) [p] (fun a o q => by rw [upd_ne (ne_of_none q hp)]; exact q) (.l upd_same (RTl.ofV rvs)) (List.nodup_cons.mpr ⟨by simp, .nil⟩) (fun a ha => by rw [List.mem_singleton] at ha; subst ha; exact hp)
  | _ => exact h1.elim
def CPT (K : PySem.W.Frag) (N1 H1 : Hp) (D : Addr) (acc : List V) (ts : List Tr) (N' H' : Hp) : Prop := ∃ Hn f, Gr N1 H1 N' Hn ∧ Hn D = none ∧ H' = upd Hn D (.lst acc) ∧ RTl K N' Hn acc ts f ∧ f.Nodup ∧ ∀ a ∈ f, N' a = none ∧ H1 a = none
section
variable {N1 H1 N' H' : Hp} {D : Addr} {acc : List V} {ts : List Tr}
theorem CPT.sub (p : CPT K N1 H1 D acc ts N' H') : Inn N' H' := by
  obtain ⟨Hn, f, g, hn, rfl, _⟩ := p
  exact g.nh.newH hn
theorem CPT.nn (p : CPT K N1 H1 D acc ts N' H') : Sub N1 N' := by
  obtain ⟨Hn, f, g, hn, rfl, _⟩ := p
  exact g.nn
theorem CPT.at (p : CPT K N1 H1 D acc ts N' H') : H' D = some (.lst acc) := by
  obtain ⟨Hn, f, g, hn, rfl, _⟩ := p
  exact upd_same
theorem CPT.len (p : CPT K N1 H1 D acc ts N' H') : acc.length = ts.length := by
  obtain ⟨Hn, f, g, hn, rfl, r, _⟩ := p
  exact r.length
theorem CPT.start (hD : H1 D = none) (g : Inn N1 H1) : CPT K N1 H1 D [] [] N1 (upd H1 D (.lst [])) := ⟨H1, [], Gr.refl g, hD, rfl, .nil, .nil, fun a ha => by cases ha⟩
end
end
end Vm
namespace Vm
open PySem L2 PyProof.Rows
variable [TabsOf]
def sTry2 (tab1 tab2 : List (Str × Bool)) (body su1 su2 : ST) : ST := fun env => match body env with
  | .exc q e => (match tab1.lookup q.cls with
    | some true => (su1 e).calm
    | some false => (match tab2.lookup q.cls with
      | some true => (su2 e).calm
      | some false => .exc q e
      | none => .bad)
    | none => .bad)
  | r => r
section
variable {K : PySem.W.Frag} {C : Cn} {B : Bs} {D : Ends}
theorem es_try2 {Wout : WX} {tb : WX → TS} {ts1 ts2 : Addr → Value → Option Addr → TS} {body su1 su2 : ST} {tab1 tab2 : List (Str × Bool)} {c1 c2 : Value}
    (hx1 : ∀ p ∈ tab1, PySem.W.exmOne K (.ref (He.ga K p.1)) c1 = some p.2) (hx2 : ∀ p ∈ tab2, PySem.W.exmOne K (.ref (He.ga K p.1)) c2 = some p.2) (hb : ∀ W, EvS K ⟨xr K, some W⟩ (tb W) body)
    (hs1 : ∀ a cls d B M H σ env fs, SR K B M H σ env fs → ∀ D, PostF K (CN K) B D (su1 env) → ts1 a cls d D σ H) (hs2 : ∀ a cls d B M H σ env fs, SR K B M H σ env fs → ∀ D, PostF K (CN K) B D (su2 env) → ts2 a cls d D σ H) :
    EvS K ⟨xr K, some Wout⟩ (fun D σ H => tb (wMany K Wout D [(c1, ts1), (c2, ts2)]) D σ H) (sTry2 tab1 tab2 body su1 su2) := fun B M H σ env fs S D h => by
  refine hb (wMany K Wout D [(c1, ts1), (c2, ts2)]) B M H σ env fs S D ?_
  unfold sTry2 at h
  cases hm : body env with
  | exc q e =>
    rw [hm] at h
    refine ⟨_, rfl, fun cls d M' H' σ' fs' S' hq => ?_⟩
    have h : PostF K ⟨xr K, some Wout⟩ B D (match tab1.lookup q.cls with
      | some true => (su1 e).calm
      | some false => (match tab2.lookup q.cls with
        | some true => (su2 e).calm
        | some false => .exc q e
        | none => .bad)
      | none => .bad) := h
    cases hl : tab1.lookup q.cls with
    | none => rw [hl] at h; exact h.elim
    | some b =>
      rw [hl] at h
      refine ⟨b, ?_, fun hb1 a ha => ?_, fun hb1 => ?_⟩
      · rw [hq.1]; exact hx1 _ (look_mem hl)
      · subst hb1
        exact hs1 a cls d B M' H' σ' e fs' S' D (PostF.calmC h)
      · subst hb1
        have h : PostF K ⟨xr K, some Wout⟩ B D (match tab2.lookup q.cls with
          | some true => (su2 e).calm
          | some false => .exc q e
          | none => .bad) := h
        cases hl2 : tab2.lookup q.cls with
        | none => rw [hl2] at h; exact h.elim
        | some b2 =>
          rw [hl2] at h
          refine ⟨b2, ?_, fun hb1 a ha => ?_, fun hb1 => ?_⟩
          · rw [hq.1]; exact hx2 _ (look_mem hl2)
          · subst hb1
            exact hs2 a cls d B M' H' σ' e fs' S' D (PostF.calmC h)
          · subst hb1
            obtain ⟨w, e1, k⟩ := h
            cases e1
            exact k cls d M' H' σ' fs' S' hq
  | next e => rw [hm] at h; exact h
  | brk e => rw [hm] at h; exact h
  | cont e => rw [hm] at h; exact h
  | ret e => rw [hm] at h; exact h
  | bad => rw [hm] at h; exact h
end
section
variable {X : Cx} {C : Cn} {a b c : Expr} {ta tb tc tk tp : TE} {ma mb mc k m : EX} {pos p pos' : Pos} {es : List Expr} {rest : List Stmt} {u : TS} {n : ST} {W : WX}
structure SPl (X : Cx) (C : Cn) (e : Expr) (tp : TE) (q : Pl) : Prop where
  pe : PE X e tp
  ev : EvPl X.K tp q
theorem spl_s (i : Nat) {x : Str} (hN : X.N[i]? = some x := by rfl) (hv : Vis X.env.scope x := by first | exact Or.inl rfl | exact Or.inr (Or.inl rfl) | exact Or.inr (Or.inr rfl)) (hd : (x == ("__debug__" : Str)) = false := by decide)
    (hcd : (x == ("__classdict__" : Str)) = false := by decide) : SPl X C (.Name x pos) (tVar i) (.s i) := ⟨pv i hN hv hd hcd, epl_s⟩
structure STr (X : Cx) (C : Cn) (e : Expr) (te : TE) (m : ET) : Prop where
  pe : PE X e te
  ev : EvT X.K C te m
theorem str_ofF (h : SF X C a ta ma) : STr X C a ta (tOfL ma) := ⟨h.pe, et_ofL h.ev⟩
theorem ss_ownT (i : Nat) {x : Str} {m : ET} (ha : STr X C a ta m) (hs : swapsWith a (some (.Name x p)) pos.line X.env = pure false := by rfl) (hN : X.N.Nodup := by assumption) (hi : X.N[i]? = some x := by rfl) (hx : Loc X.env.scope x := by first | exact .inl rfl | exact .inr rfl)
    (hf : X.fn x = true ∨ X.env.scope.names.lookup x = some .local := by first | exact .inr rfl | exact .inl rfl) : SSt X C (.Assign [.Name x p] a pos) (tAsg ta (gName i)) (sOwnT i m) := ss_asg i ha.pe (es_ownT ha.ev) hs hN hi hx hf
theorem ss_atApp {o : Expr} {pa pos2 : Pos} {q : Pl} (ho : SPl X C o tp q) (ha : SE X C a ta ma) (hbase : attributeBase o "append" X.env (eval o X.env) = eval o X.env := by rfl)
    (hfew : ((backTo pos (starEach [a] X.env)).all (fun x => !x.1) && (backToKw pos (keywordEach [] X.env)).all (fun x => x.1.isSome)
      && decide ([a].length + ([] : List Keyword).length + (if ([] : List Keyword).isEmpty then 0 else 1) < 30)) = true := by rfl)
    (hline : (pa.endLine == pos.line) = true := by rfl) (hs : starEach [a] X.env = (false, eval a X.env) :: starEach [] X.env := by rfl) (hplain : (backTo pos (starEach [] X.env)).any (·.1) = false := by rfl)
    (hsw : swapsWith (.Call (.Attribute o "append" pa) [a] [] pos) none pos2.line X.env = pure false := by rfl) :
    SSt X C (.Expr (.Call (.Attribute o "append" pa) [a] [] pos) pos2) (tDrop (tBM X.K "list" rAppend tp (tCons ta tNil))) (sAtApp q ma) :=
  ⟨ps_expr (pe_bm PySem.F.plainAttrs_list PySem.F.slot_list_append PySem.F.type_list_append mt_append ho.pe (pa_cons ha.pe pa_nil hs) hbase hfew hline hs hplain) hsw, es_atApp ho.ev ha.ev⟩
theorem ss_try2 {x1 x2 : Str} {body suite1 suite2 : List Stmt} {b1 b2 : Stmt} {np1 np2 pos1 pos2 : Pos} {t2 : WX → List (Addr × Obj) → (Value → Shared → Prop) → TS} {t1 t1' : Addr → List (Addr × Obj) → TS} {mb su1 su2 : ST} {tab1 tab2 : List (Str × Bool)} (F : Fr X ⟨xr X.K, some W⟩) (tk : Takes X W) {jj : Nat} (hr : Room jj X.A) (c1 : XC X.K X.mg x1) (c2 : XC X.K X.mg x2)
    (hx1 : ∀ p ∈ tab1, PySem.W.exmOne X.K (.ref (He.ga X.K p.1)) (.ref (He.ga X.K x1)) = some p.2) (hx2 : ∀ p ∈ tab2, PySem.W.exmOne X.K (.ref (He.ga X.K p.1)) (.ref (He.ga X.K x2)) = some p.2)
    (hb : ∀ (W : WX) (pn : List (Addr × Obj)) (xe : Value → Shared → Prop), Takes (X.tr pn xe) W → Fr (X.tr pn xe) ⟨xr X.K, some W⟩ → Room jj (X.tr pn xe).A → SSs (X.tr pn xe) ⟨xr X.K, some W⟩ body (t2 W pn xe) mb)
    (hsu1 : ∀ (a : Addr) (pn : List (Addr × Obj)), SSs (X.suite a pn) (CN X.K) (b1 :: suite1) (t1 a pn) su1) (hsu2 : ∀ (a : Addr) (pn : List (Addr × Obj)), SSs (X.suite a pn) (CN X.K) (b2 :: suite2) (t1' a pn) su2)
    (hs : X.stack = X.env :: X.outer := by rfl) (hf : X.env.frame = some X.env.locals := by rfl) (hg1 : Gl X x1 := by rfl) (hd1 : (x1 == ("__debug__" : Str)) = false := by decide) (hg2 : Gl X x2 := by rfl) (hd2 : (x2 == ("__debug__" : Str)) = false := by decide) :
    SSt X ⟨xr X.K, some W⟩ (.Try body [.ExceptHandler (some (.Name x1 np1)) none (b1 :: suite1) pos1, .ExceptHandler (some (.Name x2 np2)) none (b2 :: suite2) pos2] [] [] pos) (fun D σ H => (fun W D σ H => ∀ pn xe, Takes (X.tr pn xe) W → Fr (X.tr pn xe) ⟨xr X.K, some W⟩ → t2 W pn xe D σ H) (wMany X.K W D [(.ref (He.ga X.K x1), fun a _ _ D σ H => ∀ pn, t1 a pn D σ H), (.ref (He.ga X.K x2), fun a _ _ D σ H => ∀ pn, t1' a pn D σ H)]) D σ H) (sTry2 tab1 tab2 mb su1 su2) :=
  ⟨ps_try_many (tb := fun W D σ H => ∀ pn xe, Takes (X.tr pn xe) W → Fr (X.tr pn xe) ⟨xr X.K, some W⟩ → t2 W pn xe D σ H) hs hf tk (fun W pn xe tk pw => ⟨fun pins s σ H D I h => (hb W pn xe tk (F.tr tk pw) hr).ps.run pins s σ H D I (h pn xe tk (F.tr tk pw))⟩)
    (.cons ⟨hg1, hd1, .inl c1.g⟩ (fun a oe cls d pn _ _ => ⟨fun pins s σ H D I h => (hsu1 a _).ps.run pins s σ H D I (h _)⟩) (.cons ⟨hg2, hd2, .inl c2.g⟩ (fun a oe cls d pn _ _ => ⟨fun pins s σ H D I h => (hsu2 a _).ps.run pins s σ H D I (h _)⟩) .nil)),
   es_try2 (tb := fun W D σ H => ∀ pn xe, Takes (X.tr pn xe) W → Fr (X.tr pn xe) ⟨xr X.K, some W⟩ → t2 W pn xe D σ H) hx1 hx2 (fun W' B M H σ env fs S D h pn xe tk' F' => (hb W' pn xe tk' F' hr).ev B M H σ env fs S D h) (fun a cls d B M H σ env fs S D h pn => (hsu1 a pn).ev B M H σ env fs S D h) (fun a cls d B M H σ env fs S D h pn => (hsu2 a pn).ev B M H σ env fs S D h)⟩
end
end Vm
namespace Vm
open PySem L2 PyProof.Rows
variable [TabsOf]
/-- x.f, x a frozen object of the class c -/
def eFld (c f : Str) (a : EX) : EX := fun env => (a env).bind fun
  | .ob c' fs => if c' = c then Res.ofOpt (fs.lookup f) else .bad
  | _ => .bad
inductive MR where
  | ret (y : Val) (t : Tr)
  | exc (q : Exn) (t : Tr)
  | bad
abbrev MFn := Tr → List Val → MR
def startM (n : Nat) (t : Tr) (xs : List Val) : Env := .me t :: (xs.map Slot.sh ++ List.replicate (n - 1 - xs.length) Slot.un)
/-- what self holds -/
def meOf : Env → Option Tr
  | Slot.me t :: _ => some t
  | _ => none
theorem meOf_eq : ∀ {e : Env} {t : Tr}, meOf e = some t → e[0]? = some (Slot.me t)
  | [], _, h => by cases h
  | .me u :: _, t, h => by cases h; rfl
  | .un :: _, _, h => by cases h
  | .sh _ :: _, _, h => by cases h
  | .oL _ :: _, _, h => by cases h
  | .oD _ :: _, _, h => by cases h
  | .oT _ :: _, _, h => by cases h
  | .meR _ :: _, _, h => by cases h
/-- a method of k parameters behind self, n slots in all -/
def endM : Flow → MR
  | .next e => (match meOf e with
    | some t => .ret .non t
    | none => .bad)
  | .ret x e => (match meOf (unR e) with
    | some t => if x.noLst = true ∨ isR e = true then .ret x t else .bad
    | none => .bad)
  | .exc q e => (match meOf e with
    | some t => .exc q t
    | none => .bad)
  | _ => .bad
def defnM (k n : Nat) (m : ST) : MFn := fun t xs => if xs.length = k then endM (m (startM n t xs)) else .bad
/-- behind a method: what stays, what is new; fv, fv' what the object owns before and behind -/
structure Aft (N H : Hp) (fv : List Addr) (N' H' : Hp) (fv' : List Addr) : Prop where
  nn : Sub N N'
  nh : Inn N' H'
  out : Out fv H H'
  nw : ∀ a, N' a ≠ none → N a ≠ none ∨ (a ∈ fv ∨ H a = none)
  nd : fv'.Nodup
  fr : ∀ a ∈ fv', N' a = none ∧ (a ∈ fv ∨ H a = none)
def EndM (K : PySem.W.Frag) (XR : XRel) (N H : Hp) (fv : List Addr) (v0 : V) (Q : VK) (E : XK) (x : MR) : Prop := match x with
  | .ret y t => ∀ N' H' fv', Aft N H fv N' H' fv' → RT K N' H' v0 t fv' → ∀ v, RV K N' v y → Q v H'
  | .exc q t => ∀ cls d N' H' fv', Aft N H fv N' H' fv' → RT K N' H' v0 t fv' → XR H' cls d q → E cls d H'
  | .bad => False
def spM (K : PySem.W.Frag) (XR : XRel) (k : Nat) (f : MFn) : Sp := fun vs H Q E => ∃ v0 vs' N t fv xs, vs = v0 :: vs' ∧ Inn N H ∧ RT K N H v0 t fv ∧ fv.Nodup ∧ (∀ a ∈ fv, N a = none) ∧ RVs K N vs' xs ∧ xs.length = k ∧ EndM K XR N H fv v0 Q E (f t xs)
section
variable {K : PySem.W.Frag} {C : Cn}
theorem RFs.look {N : Hp} : ∀ {vs : List (Str × V)} {xs : List (Str × Val)} {f : Str} {x : Val}, RFs K N vs xs → xs.lookup f = some x → ∃ v, vs.lookup f = some v ∧ RV K N v x
  | _, _, f, x, .nil, h => by cases h
  | _, _, f, x, .cons (k := k) r rr, h => by
    rw [List.lookup_cons] at h
    cases hb : f == k with
    | true =>
      rw [hb] at h
      cases h
      exact ⟨_, by rw [List.lookup_cons, hb], r⟩
    | false =>
      rw [hb] at h
      obtain ⟨v, h1, h2⟩ := RFs.look rr h
      exact ⟨v, by rw [List.lookup_cons, hb]; exact h1, h2⟩
theorem ev_fld {ta : TE} {ma : EX} {c f : Str} (hc : Cls K (He.ga K c)) (hn : NoAttr K (He.ga K c) f) (ha : EvE K C ta ma) : EvE K C (tFld K ta f) (eFld c f ma) := fun N H σ env e s Q h => by
  refine ha N H σ env e s _ (PostR.imp (PostR.bind h) fun x N1 H1 g1 h1 v rv => ?_)
  cases rv with
  | @ob a dx c' fs ys hN rf =>
    by_cases hcc : c' = c
    · subst hcc
      replace h1 : PostR C σ N1 H1 (if c' = c' then Res.ofOpt (ys.lookup f) else .bad) _ := h1
      rw [if_pos rfl] at h1
      cases hl : ys.lookup f with
      | none => rw [hl] at h1; exact h1.elim
      | some y =>
        rw [hl] at h1
        obtain ⟨u, h2, h3⟩ := RFs.look rf hl
        exact ⟨a, _, dx, fs, u, rfl, g1.nh _ _ hN, hc, hn, h2, h1 N1 H1 (Gr.refl g1.nh) u h3⟩
    · replace h1 : PostR C σ N1 H1 (if c' = c then Res.ofOpt (ys.lookup f) else .bad) _ := h1
      rw [if_neg hcc] at h1
      exact h1.elim
  | _ => exact h1.elim
/-- the end of a method -/
theorem SR.meEnd {N H : Hp} {fv : List Addr} {v0 : V} {M H' : Hp} {σ : L2.St} {e : Env} {fs : List Addr} {t : Tr} (S : SR K ⟨N, fun a => if a ∈ fv then none else H a, fun _ => none, v0⟩ M H' σ e fs) (he : e[0]? = some (.me t)) :
    ∃ fv', RT K M H' v0 t fv' ∧ (∀ a ∈ fv', a ∈ fs) ∧ ∀ N', Sub M N' → Inn N' H' → (∀ a, N' a ≠ none → N a ≠ none ∨ (if a ∈ fv then none else H a) = none) → (∀ a ∈ fv', N' a = none) → Aft N H fv N' H' fv' := by
  obtain ⟨s0, f1, f, f2, h1, h2, h3, h4⟩ := S.sl.at he
  have nd := S.nd
  rw [h2] at nd
  have hfs : ∀ a ∈ f, a ∈ fs := fun a ha => by rw [h2]; simp [ha]
  have cases' : ∀ a, (if a ∈ fv then none else H a) = none → a ∈ fv ∨ H a = none := fun a q => by
    by_cases ha : a ∈ fv
    · exact .inl ha
    · rw [if_neg ha] at q; exact .inr q
  cases h3 with
  | me r =>
    refine ⟨f, r, hfs, fun N' em en nw fr => ⟨S.g.nn.trans em, en, ⟨fun a ha o q nq => ?_, fun a ha q => ?_, en.tt⟩, fun a q => ?_, (List.nodup_append.mp (List.nodup_append.mp nd).2.1).1, fun a ha => ⟨fr a ha, cases' a (S.fr a (hfs a ha)).2⟩⟩⟩
    · exact S.g.hh.to a o (by show (if a ∈ fv then none else H a) = some o; rw [if_neg ha]; exact q) nq
    · have := S.g.hh.ne a q
      rcases cases' a this with h | h
      · exact absurd h ha
      · exact h
    · rcases nw a q with h | h
      · exact .inl h
      · exact .inr (cases' a h)
theorem endM_next {e : Env} (h : endM (.next e) ≠ .bad) : ∃ t, e[0]? = some (.me t) ∧ endM (.next e) = .ret .non t := by
  cases hm : meOf e with
  | none => exact absurd (by simp only [endM, hm]) h
  | some t => exact ⟨t, meOf_eq hm, by simp only [endM, hm]⟩
theorem endM_exc {q : Exn} {e : Env} (h : endM (.exc q e) ≠ .bad) : ∃ t, e[0]? = some (.me t) ∧ endM (.exc q e) = .exc q t := by
  cases hm : meOf e with
  | none => exact absurd (by simp only [endM, hm]) h
  | some t => exact ⟨t, meOf_eq hm, by simp only [endM, hm]⟩
theorem endM_ret {x : Val} {e : Env} (h : endM (.ret x e) ≠ .bad) : ∃ t, (unR e)[0]? = some (.me t) ∧ (x.noLst = true ∨ isR e = true) ∧ endM (.ret x e) = .ret x t := by
  cases hm : meOf (unR e) with
  | none => exact absurd (by simp only [endM, hm]) h
  | some t =>
    by_cases hn : x.noLst = true ∨ isR e = true
    · exact ⟨t, meOf_eq hm, hn, by simp only [endM, hm, if_pos hn]⟩
    · exact absurd (by simp only [endM, hm, if_neg hn]) h
end
section
variable {P : Program} {w : World} {K : PySem.W.Frag} {mg : Str → Option Value} {base : Heap} {XR : XRel}
theorem fnM_ok {x qual : Str} {params : Arguments} {body : List Stmt} {scope : Scope} {dvs : List V} {kws : List (Str × V)} {f : Addr} {fd : FuncData} {N ps : List Str} {j k n : Nat} {m : ST} (F : FunD K x qual params body scope dvs kws f fd) (S : FnScope N ps scope)
    (hk : ps.length = k + 1) (hn : N.length = n) (hb : Body P w K mg base XR j N qual scope body m) : FnOk P w K mg base (L2.CX P w) (j + 1) f fd ps (spM K XR k (defnM k n m)) := by
  refine F.ok S (fun vs H Q E h => ?_) (fun cdv A outer s H vs Q E hr h => ?_)
  · obtain ⟨v0, vs', N0, t, fv, xs, rfl, _, _, _, _, r, hl, _⟩ := h
    rw [List.length_cons, r.length, hl, hk]
  · have tk : Takes (FX P w K mg base N qual scope f cdv A outer s H E) (fun cls d _ H => E cls d H) := takes_of rfl rfl rfl rfl
    obtain ⟨t, h1, h2⟩ := hb f cdv A outer s H E _ tk ⟨units65 hr, rfl, Lets.of tk, passes_of rfl⟩ hr
    refine ⟨t, h1, ?_⟩
    obtain ⟨v0, vs', N0, tr, fv, xs, rfl, e, rt, nd, fr, rr, hl, q⟩ := h
    have hst : SO K v0 N0 H (L2.start N (v0 :: vs')) (startM n tr xs) fv := by
      have h3 : L2.start N (v0 :: vs') = some v0 :: (vs'.map some ++ List.replicate (n - 1 - xs.length) none) := by
        unfold L2.start
        rw [hn, List.length_cons, rr.length, List.map_cons, List.cons_append]
        congr 3
        omega
      rw [h3]
      have := SO.cons (f := fv) (fs := []) (SlR1.me rt) (so_start (me := v0) (n := n - 1 - xs.length) rr)
      rw [List.append_nil] at this
      exact this
    let Bm : Bs := ⟨N0, fun a => if a ∈ fv then none else H a, fun _ => none, v0⟩
    have S0 : SR K Bm N0 H (L2.start N (v0 :: vs')) (startM n tr xs) fv := by
      refine ⟨⟨⟨fun a o q _ => ?_, fun a q => ?_⟩, Same.refl _, e, fun a q => .inl q⟩, (fun a o q => nomatch q), fun a ha => ⟨fr a ha, if_pos ha⟩, nd, hst⟩
      · have q : (if a ∈ fv then none else H a) = some o := q
        split at q
        · cases q
        · exact q
      · show (if a ∈ fv then none else H a) = none
        split
        · rfl
        · exact q
    refine h2 Bm N0 H _ _ fv S0 _ ?_
    unfold defnM at q
    rw [if_pos hl] at q
    have qb : endM (m (startM n tr xs)) ≠ .bad := fun z => by rw [z] at q; exact q
    cases hm : m (startM n tr xs) with
    | next e =>
      rw [hm] at q qb
      obtain ⟨t', he, hq⟩ := endM_next qb
      rw [hq] at q
      intro M H' σ fs S'
      obtain ⟨fv', r', sub, mk⟩ := SR.meEnd S' he
      exact q M H' fv' (mk M (Same.refl _) S'.g.nh S'.g.nw fun a ha => (S'.fr a (sub a ha)).1) r' .non .non
    | ret x e =>
      rw [hm] at q qb
      obtain ⟨t', he, hno, hq⟩ := endM_ret qb
      rw [hq] at q
      intro M N' H' v σ fs S' em hk2 g rv hr
      obtain ⟨fv', r', sub, mk⟩ := SR.meEnd S' he
      have em2 : Sub M (part N' fs) := fun a o q => by
        unfold part
        rw [if_neg fun h => by rw [(S'.fr a h).1] at q; cases q]
        exact em a o q
      refine q (part N' fs) H' fv' (mk (part N' fs) em2 (g.nh.cut fs) (fun a q => ?_) fun a ha => if_pos (sub a ha)) (RT.mono em2 t' (fun a ha => rfl) r') v (hno.elim (fun h => RV.strip hk2 x rv h) fun h => RV.mono em2 x (hr h))
      · unfold part at q
        split at q
        · exact absurd rfl q
        · exact g.nw a q
    | exc z e =>
      rw [hm] at q qb
      obtain ⟨t', he, hq⟩ := endM_exc qb
      rw [hq] at q
      refine ⟨_, rfl, fun cls d M H' σ fs S' hx => ?_⟩
      obtain ⟨fv', r', sub, mk⟩ := SR.meEnd S' he
      exact q cls d M H' fv' (mk M (Same.refl _) S'.g.nh S'.g.nw fun a ha => (S'.fr a (sub a ha)).1) r' hx
    | brk e => rw [hm] at qb; exact absurd rfl qb
    | cont e => rw [hm] at qb; exact absurd rfl qb
    | bad => rw [hm] at qb; exact absurd rfl qb
end
end Vm
namespace Vm
open PySem L2 PyProof.Rows
variable [TabsOf]
section
variable {K : PySem.W.Frag} {C : Cn}
theorem RKs.len {N : Hp} : ∀ {vs : List (L2.Key × V)} {xs : List (Key × Val)}, RKs K N vs xs → vs.length = xs.length
  | _, _, .nil => rfl
  | _, _, .cons _ r => congrArg (· + 1) (RKs.len r)
variable {M M' H H' : Hp} {me : V} {σ : L2.St} {env : Env} {fs : List Addr} {B : Bs}
end
end Vm
namespace Vm
open PySem L2 PyProof.Rows
variable [TabsOf]
def treeAt (env : Env) (i : Nat) (π : List Stp) : Option Tr := match env[i]? with
  | some (.oT t) => getAt π t
  | some (.me t) => getAt π t
  | _ => none
section
variable {K : PySem.W.Frag} {C : Cn} {B : Bs} {M H : Hp} {σ : L2.St} {env : Env} {fs : List Addr} {D : Ends}
/-- where a place stands, what lies ahead of it told -/
theorem RT.adr : ∀ (p : List Stp) {v : V} {t t' : Tr} {f : List Addr}, RT K M H v t f → getAt p t = some t' → ∃ v' f1 f' f2, addrAt H p v = some v' ∧ RT K M H v' t' f' ∧ f = f1 ++ (f' ++ f2) ∧ ∀ {H' : Hp}, (∀ a ∈ f1, H' a = H a) → addrAt H' p v = some v'
  | [], w, t, t', f, r, h => by
    cases h
    exact ⟨w, [], f, [], rfl, r, by simp, fun _ => rfl⟩
  | .ix j :: p, _, _, t', _, .l (a := a) (vs := vs) (ts := ts) ha r, h => by
    unfold getAt at h
    split at h
    · rename_i t hj
      obtain ⟨v, f1, f', f2, h1, h2, h3, _⟩ := RTl.foc ts r hj
      obtain ⟨v', g1, g', g2, k1, k2, k3, k4⟩ := RT.adr p h2 h
      subst k3; subst h3
      refine ⟨v', a :: (f1 ++ g1), g', g2 ++ f2, by unfold addrAt; rw [ha]; simp only [h1]; exact k1, k2, by simp, fun {H'} eh => ?_⟩
      unfold addrAt
      rw [eh a List.mem_cons_self, ha]
      simp only [h1]
      exact k4 fun b hb => eh b (by simp [hb])
    · cases h
  | .ky k :: p, _, _, t', _, .d (a := a) (vs := vs) (ts := ts) ha r, h => by
    unfold getAt at h
    split at h
    · rename_i t hj
      obtain ⟨v, f1, f', f2, h1, h2, h3, _⟩ := RTd.foc ts r hj
      obtain ⟨v', g1, g', g2, k1, k2, k3, k4⟩ := RT.adr p h2 h
      subst k3; subst h3
      refine ⟨v', a :: (f1 ++ g1), g', g2 ++ f2, by unfold addrAt; rw [ha]; simp only [h1]; exact k1, k2, by simp, fun {H'} eh => ?_⟩
      unfold addrAt
      rw [eh a List.mem_cons_self, ha]
      simp only [h1]
      exact k4 fun b hb => eh b (by simp [hb])
    · cases h
  | .fl k :: p, _, _, t', _, .o (a := a) (dx := dx) (c := c) (vs := vs) (ts := ts) ha hd r, h => by
    unfold getAt at h
    split at h
    · rename_i t hj
      obtain ⟨v, f1, f', f2, h1, h2, h3, _⟩ := RTo.foc ts r hj
      obtain ⟨v', g1, g', g2, k1, k2, k3, k4⟩ := RT.adr p h2 h
      subst k3; subst h3
      refine ⟨v', a :: dx :: (f1 ++ g1), g', g2 ++ f2, by unfold addrAt; rw [ha]; simp only [h1]; exact k1, k2, by simp, fun {H'} eh => ?_⟩
      unfold addrAt
      rw [eh a List.mem_cons_self, ha]
      simp only [h1]
      exact k4 fun b hb => eh b (by simp [hb])
    · cases h
  | .ix _ :: _, _, _, _, _, .v _, h => by cases h
  | .ix _ :: _, _, _, _, _, .d _ _, h => by cases h
  | .ix _ :: _, _, _, _, _, .dT _ _, h => by cases h
  | .ix _ :: _, _, _, _, _, .o _ _ _, h => by cases h
  | .ky _ :: _, _, _, _, _, .v _, h => by cases h
  | .ky _ :: _, _, _, _, _, .l _ _, h => by cases h
  | .ky _ :: _, _, _, _, _, .dT _ _, h => by cases h
  | .ky _ :: _, _, _, _, _, .o _ _ _, h => by cases h
  | .fl _ :: _, _, _, _, _, .v _, h => by cases h
  | .fl _ :: _, _, _, _, _, .l _ _, h => by cases h
  | .fl _ :: _, _, _, _, _, .d _ _, h => by cases h
  | .fl _ :: _, _, _, _, _, .dT _ _, h => by cases h
theorem SR.keep (S : SR K B M H σ env fs) {i : Nat} {b : Bool} {t : Tr} {ts : List (Key × Tr)} {p : List Stp} (hi : env[i]? = some (mkT b t)) (hg : getAt p t = some (.d ts)) {v0 : V} {a : Addr} (h1 : σ[i]? = some (some v0)) (h2 : addrAt H p v0 = some (.ref a)) {H' : Hp} (e : ∀ b, b ≠ a → ∀ o, H b = some o → H' b = some o) : addrAt H' p v0 = some (.ref a) := by
  obtain ⟨s0, g1, f, g2, k1, k2, k3, _⟩ := S.sl.at hi
  obtain ⟨v, rfl, r, _⟩ := k3.tree
  rw [h1] at k1
  cases k1
  obtain ⟨v', f1, f', f2, q1, q2, q3, q4⟩ := RT.adr p r hg
  rw [h2] at q1
  cases q1
  cases q2 with
  | @d _ vs _ f0 ha rd =>
    have nd := S.nd
    rw [k2] at nd
    have nd2 : f.Nodup := (List.nodup_append.mp (List.nodup_append.mp nd).2.1).1
    subst q3
    refine q4 fun c hc => ?_
    have hne : c ≠ a := fun z => (List.nodup_append.mp nd2).2.2 c hc a (by simp) z
    obtain ⟨o, ho, _⟩ := RT.kinds t r c (List.mem_append_left _ hc)
    rw [ho, e c hne o ho]
theorem RTd.append : ∀ {ts us : List (Key × Tr)} {vs ws : List (L2.Key × V)} {f g : List Addr}, RTd K M H vs ts f → RTd K M H ws us g → RTd K M H (vs ++ ws) (ts ++ us) (f ++ g)
  | [], _, _, _, _, _, .nil, s => s
  | _ :: _, _, _, _, _, _, .cons h r, s => by rw [List.append_assoc]; exact .cons h (r.append s)
theorem RTd.length : ∀ {ts : List (Key × Tr)} {vs : List (L2.Key × V)} {f : List Addr}, RTd K M H vs ts f → vs.length = ts.length
  | [], _, _, .nil => rfl
  | _ :: _, _, _, .cons _ r => congrArg (· + 1) r.length
end
end Vm
namespace Vm
open PySem L2 PyProof.Rows
variable [TabsOf]
section
variable {K : PySem.W.Frag}
theorem RVs.snoc {N : Hp} : ∀ {vs ws : List V} {xs ys : List Val}, RVs K N vs xs → RVs K N ws ys → RVs K N (vs ++ ws) (xs ++ ys)
  | _, _, _, _, .nil, s => s
  | _, _, _, _, .cons h r, s => .cons h (RVs.snoc r s)
theorem EvFD.e {C : Cn} {te : TE} {m : EX} (hd : ∀ env x, m env = .ok x → ∃ xs, x = .dct xs) (h : EvFD K C te m) : EvE K C te m := fun N H σ env e s Q hp => by
  refine h N H σ env e s Q ?_
  cases hm : m env with
  | bad => rw [hm] at hp; exact hp.elim
  | exc q => rw [hm] at hp; exact hp
  | ok x =>
    rw [hm] at hp
    obtain ⟨xs, rfl⟩ := hd env x hm
    intro N' H' g
    refine ⟨xs, rfl, fun p vs hf r => ?_⟩
    have g2 := g.trans (Gr.new g.nh hf (o := .dK vs))
    exact hp _ _ g2 _ (.dct (.inl upd_same) (RKs.mono (fun a o q => by
      have hn : N' p = none := by
        cases hz : N' p with
        | none => rfl
        | some o' => have := g.nh p o' hz; rw [hf] at this; cases this
      rw [upd_ne (ne_of_none q hn)]; exact q) _ r))
end
end Vm
namespace Vm
open PySem L2 PyProof.Rows
variable [TabsOf]
section
variable {K : PySem.W.Frag} {C : Cn}
theorem RTl.known {M H : Hp} {ts : List Tr} {vs : List V} {f : List Addr} (h : RTl K M H vs ts f) : ∀ a ∈ f, H a ≠ none := fun a ha => by obtain ⟨o, ho, _⟩ := RTl.kinds ts h a ha; rw [ho]; simp
end
end Vm
namespace Vm
open PySem PySem.Spec L2 PyProof.Rows
variable [TabsOf]
section
variable {K : PySem.W.Frag} {C : Cn}
/-- the new object at D; N' stays -/
def CPo (N1 H1 : Hp) (D : Addr) (ob : HO) (N' H' : Hp) : Prop := ∃ Hn, Gr N1 H1 N' Hn ∧ Hn D = none ∧ H' = upd Hn D ob
section
variable {N1 H1 N' H' : Hp} {D : Addr} {ob : HO}
theorem CPo.sub (p : CPo N1 H1 D ob N' H') : Inn N' H' := by
  obtain ⟨Hn, g, hn, rfl⟩ := p
  exact g.nh.newH hn
theorem CPo.nn (p : CPo N1 H1 D ob N' H') : Sub N1 N' := by
  obtain ⟨Hn, g, hn, rfl⟩ := p
  exact g.nn
theorem CPo.at (p : CPo N1 H1 D ob N' H') : H' D = some ob := by
  obtain ⟨Hn, g, hn, rfl⟩ := p
  exact upd_same
theorem CPo.put (p : CPo N1 H1 D ob N' H') (ob' : HO) : CPo N1 H1 D ob' N' (upd H' D ob') := by
  obtain ⟨Hn, g, hn, rfl⟩ := p
  refine ⟨Hn, g, hn, ?_⟩
  funext a
  unfold upd
  by_cases ha : a = D
  · rw [if_pos ha, if_pos ha]
  · rw [if_neg ha, if_neg ha, if_neg ha]
theorem CPo.start (g : Inn N1 H1) (hD : H1 D = none) : CPo N1 H1 D ob N1 (upd H1 D ob) := ⟨H1, Gr.refl g, hD, rfl⟩
end
end
end Vm
namespace Vm
open PySem L2 PyProof.Rows
variable [TabsOf]
inductive RS (α : Type) where
  | ok (x : α) (e : Env)
  | exc (q : Exn) (e : Env)
  | bad
def RS.bind {α β : Type} : RS α → (α → Env → RS β) → RS β
  | .ok x e, f => f x e
  | .exc q e, _ => .exc q e
  | .bad, _ => .bad
def RS.flow {α : Type} : RS α → (α → Env → Flow) → Flow
  | .ok x e, f => f x e
  | .exc q e, _ => .exc q e
  | .bad, _ => .bad
def Res.rs {α : Type} : Res α → Env → RS α
  | .ok x, e => .ok x e
  | .exc q, e => .exc q e
  | .bad, _ => .bad
@[simp] theorem RS.bind_ok {α β : Type} (a : α) (e : Env) (f : α → Env → RS β) : (RS.ok a e).bind f = f a e := rfl
@[simp] theorem RS.bind_exc {α β : Type} (q : Exn) (e : Env) (f : α → Env → RS β) : (RS.exc q e : RS α).bind f = .exc q e := rfl
@[simp] theorem RS.bind_bad {α β : Type} (f : α → Env → RS β) : (RS.bad : RS α).bind f = .bad := rfl
@[simp] theorem RS.flow_ok {α : Type} (a : α) (e : Env) (f : α → Env → Flow) : (RS.ok a e).flow f = f a e := rfl
@[simp] theorem RS.flow_exc {α : Type} (q : Exn) (e : Env) (f : α → Env → Flow) : (RS.exc q e : RS α).flow f = .exc q e := rfl
@[simp] theorem RS.flow_bad {α : Type} (f : α → Env → Flow) : (RS.bad : RS α).flow f = .bad := rfl
@[simp] theorem Res.rs_ok {α : Type} (a : α) (e : Env) : (Res.ok a).rs e = .ok a e := rfl
@[simp] theorem Res.rs_exc {α : Type} (q : Exn) (e : Env) : (Res.exc q : Res α).rs e = .exc q e := rfl
@[simp] theorem Res.rs_bad {α : Type} (e : Env) : (Res.bad : Res α).rs e = .bad := rfl
abbrev EM := Env → RS Val
abbrev AM := Env → RS (List Val)
abbrev BM := Env → RS Bool
/-- nothing changes in it: over what stays | over all, no list in the value -/
def mH (a : EX) : EM := fun env => (a (hide env)).rs env
def mN (a : EX) : EM := fun env => ((a env).rs env).bind fun x e => if x.noLst = true then .ok x e else .bad
def mNil : AM := fun env => .ok [] env
def mCons (a : EM) (r : AM) : AM := fun env => (a env).bind fun x e => (r e).bind fun xs e' => .ok (x :: xs) e'
/-- f at the tree there -/
def mApp (f : MFn) (i : Nat) (π : List Stp) (xs : List Val) (e : Env) : RS Val := match treeAt e i π with
  | some t => (match f t xs with
    | .ret y t' => (match putPl e i π t' with
      | .next e' => .ok y e'
      | _ => .bad)
    | .exc q t' => (match putPl e i π t' with
      | .next e' => .exc q e'
      | _ => .bad)
    | .bad => .bad)
  | none => .bad
def isO (c m : Str) : Option Tr → Bool
  | some (.o c' fs) => decide (c' = c) && (lookF fs m).isNone
  | _ => false
/-- x.m(..), x a slot's object -/
def mMeth (c m : Str) (i : Nat) (f : MFn) (args : AM) : EM := fun env => if isO c m (treeAt env i []) = true then (args env).bind fun xs e => mApp f i [] xs e else .bad
/-- f(x, ..), x a slot's tree -/
def mCall (i : Nat) (f : MFn) (args : AM) : EM := fun env => if (treeAt env i []).isSome = true then (args env).bind fun xs e => mApp f i [] xs e else .bad
def mLst (a : AM) : EM := fun env => (a env).bind fun xs e => (vLst xs).rs e
def mTup (a : AM) : EM := fun env => (a env).bind fun xs e => (vTup xs).rs e
def m1 (f : Val → Res Val) (a : EM) : EM := fun env => (a env).bind fun x e => (f x).rs e
def m2 (f : Val → Val → Res Val) (a b : EM) : EM := fun env => (a env).bind fun x e => (b e).bind fun y e' => (f x y).rs e'
def mIf (t : BM) (a b : EM) : EM := fun env => (t env).bind fun k e => bif k then a e else b e
def mAnd (a b : EM) : EM := fun env => (a env).bind fun x e => ((asBl x).rs e).bind fun k e => bif k then b e else .ok (.bl false) e
def mOr (a b : EM) : EM := fun env => (a env).bind fun x e => ((asBl x).rs e).bind fun k e => bif k then .ok (.bl true) e else b e
def mNot (a : EM) : EM := fun env => (a env).bind fun x e => ((asBl x).rs e).bind fun k e => .ok (.bl (!k)) e
def bmP (t : EB) : BM := fun env => (t env).rs env
def bmV (a : EM) : BM := fun env => (a env).bind fun x e => (asBl x).rs e
def bmT (a : EM) : BM := fun env => (a env).bind fun x e => (truth x).rs e
def bmAnd (a b : BM) : BM := fun env => (a env).bind fun x e => bif x then b e else .ok false e
def bmOr (a b : BM) : BM := fun env => (a env).bind fun x e => bif x then .ok true e else b e
def bmNot (a : BM) : BM := fun env => (a env).bind fun x e => .ok (!x) e
def sSetM (i : Nat) (a : EM) : ST := fun env => (a env).flow fun x e => if i < e.length then .next (e.set i (.sh x)) else .bad
def sDropM (a : EM) : ST := fun env => (a env).flow fun _ e => .next e
def sRetM (a : EM) : ST := fun env => (a env).flow fun x e => .ret x e
/-- return e, the value in what stays -/
def sRetW (a : EM) : ST := fun env => (a env).flow fun x e => .ret x (mkR e)
def sIfM (t : BM) (a b : ST) : ST := fun env => (t env).flow fun k e => bif k then a e else b e
/-- xs.append(e), xs a slot's own list -/
def sAppendM (i : Nat) (a : EM) : ST := fun env => match env[i]? with
  | some (.oL _) => (a env).flow fun x e => (match e[i]? with
    | some (.oL xs) => if xs.length < 16777216 then .next (e.set i (.oL (xs ++ [x]))) else .bad
    | _ => .bad)
  | _ => .bad
def sPutM (p : Put) (a : EM) : ST := fun env => (a env).flow fun x e => (p x e).flow e .next
def PostM {α : Type} (K : PySem.W.Frag) (C : Cn) (B : Bs) (σ : L2.St) (r : RS α) (P : α → Env → Hp → Hp → List Addr → Prop) : Prop := match r with
  | .ok x e => ∀ M H fs, SR K B M H σ e fs → P x e M H fs
  | .exc q e => ∃ w, C.W = some w ∧ ∀ cls d M H fs, SR K B M H σ e fs → C.XR H cls d q → w cls d σ H
  | .bad => False
section
variable {α β : Type} {K : PySem.W.Frag} {C : Cn} {B : Bs} {M H : Hp} {σ : L2.St} {env : Env} {fs : List Addr} {r : RS α} {P P' : α → Env → Hp → Hp → List Addr → Prop}
theorem PostM.bind {f : α → Env → RS β} {P : β → Env → Hp → Hp → List Addr → Prop} (h : PostM K C B σ (r.bind f) P) : PostM K C B σ r (fun x e M H fs => PostM K C B σ (f x e) P) := by
  cases r with
  | ok x e => exact fun M H fs _ => h
  | exc q e => exact h
  | bad => exact h
theorem PostM.imp (h : PostM K C B σ r P) (k : ∀ x e M H fs, SR K B M H σ e fs → P x e M H fs → P' x e M H fs) : PostM K C B σ r P' := by
  cases r with
  | ok x e => exact fun M H fs S => k x e M H fs S (h M H fs S)
  | exc q e => exact h
  | bad => exact h
theorem PostM.low {M1 : Hp} (e1 : Sub B.l M1) (h : PostM K C B σ r P) : PostM K C { B with l := M1 } σ r (fun x e M H fs => SR K B M H σ e fs ∧ Sub M1 M ∧ P x e M H fs) := by
  cases r with
  | ok x e => exact fun M H fs S => ⟨S.of_low e1, S.lo, h M H fs (S.of_low e1)⟩
  | exc q e =>
    obtain ⟨w, h1, h2⟩ := h
    exact ⟨w, h1, fun cls d M H fs S hx => h2 cls d M H fs (S.of_low e1) hx⟩
  | bad => exact h
theorem PostM.flow {D : Ends} {f : α → Env → Flow} (h : PostF K C B D (r.flow f)) : PostM K C B σ r (fun x e M H fs => PostF K C B D (f x e)) := by
  cases r with
  | ok x e => exact fun M H fs _ => h
  | exc q e =>
    obtain ⟨w, h1, h2⟩ := h
    exact ⟨w, h1, fun cls d M H fs S hx => h2 cls d M H σ fs S hx⟩
  | bad => exact h
theorem PostM.ite {c : Prop} [Decidable c] {a : RS α} {P : α → Env → Hp → Hp → List Addr → Prop} (h : PostM K C B σ (if c then a else .bad) P) : c ∧ PostM K C B σ a P := by
  split at h
  · rename_i hc; exact ⟨hc, h⟩
  · exact h.elim
/-- what an operation made -/
theorem PostM.res {a : Res α} {P : α → Env → Hp → Hp → List Addr → Prop} (n : NX a) (h : PostM K C B σ (a.rs env) P) : ∃ z, a = .ok z ∧ ∀ M H fs, SR K B M H σ env fs → P z env M H fs := by
  cases a with
  | ok x => exact ⟨x, rfl, h⟩
  | exc e => exact absurd rfl (n e)
  | bad => exact h.elim
end
def EvM (K : PySem.W.Frag) (C : Cn) (te : TE) (m : EM) : Prop := ∀ B M H σ env fs, SR K B M H σ env fs → ∀ Q : VK, PostM K C B σ (m env) (fun x _ M' H' _ => ∀ v, RV K M' v x → Q v H') → te σ H Q
def EvAM (K : PySem.W.Frag) (C : Cn) (ta : TA) (m : AM) : Prop := ∀ B M H σ env fs, SR K B M H σ env fs → ∀ Q : List V → Hp → Prop, PostM K C B σ (m env) (fun xs _ M' H' _ => ∀ vs, RVs K M' vs xs → Q vs H') → ta σ H Q
def EvBM (K : PySem.W.Frag) (C : Cn) (tt : TT) (m : BM) : Prop := ∀ B M H σ env fs, SR K B M H σ env fs → ∀ Q : Bool → Hp → Prop, PostM K C B σ (m env) (fun b _ _ H' _ => Q b H') → tt σ H Q
section
variable {K : PySem.W.Frag} {C : Cn} {B : Bs} {M H : Hp} {σ : L2.St} {env : Env} {fs : List Addr} {ta tb te : TE} {ma mb : EM} {t : TA} {m : AM} {D : Ends}
/-- with the state behind it -/
theorem EvM.go (ha : EvM K C te ma) (S : SR K B M H σ env fs) {Q : VK} (h : PostM K C B σ (ma env) (fun x e M' H' fs' => SR K B M' H' σ e fs' → Sub M M' → ∀ v, RV K M' v x → Q v H')) : te σ H Q := by
  refine ha { B with l := M } M H σ env fs (S.at_low (Same.refl _)) Q (PostM.imp (PostM.low S.lo h) ?_)
  rintro x e M' H' fs' _ ⟨S', l, h⟩ v rv
  exact h S' l v rv
theorem EvAM.go (ha : EvAM K C t m) (S : SR K B M H σ env fs) {Q : List V → Hp → Prop} (h : PostM K C B σ (m env) (fun xs e M' H' fs' => SR K B M' H' σ e fs' → Sub M M' → ∀ vs, RVs K M' vs xs → Q vs H')) : t σ H Q := by
  refine ha { B with l := M } M H σ env fs (S.at_low (Same.refl _)) Q (PostM.imp (PostM.low S.lo h) ?_)
  rintro x e M' H' fs' _ ⟨S', l, h⟩ v rv
  exact h S' l v rv
theorem EvBM.go {tt : TT} {mt : BM} (ha : EvBM K C tt mt) (S : SR K B M H σ env fs) {Q : Bool → Hp → Prop} (h : PostM K C B σ (mt env) (fun b e M' H' fs' => SR K B M' H' σ e fs' → Q b H')) : tt σ H Q := by
  refine ha B M H σ env fs S Q (PostM.imp h ?_)
  intro x e M' H' fs' S' h
  exact h S'
theorem em_h {a : EX} (ha : EvE K C te a) : EvM K C te (mH a) := fun B M H σ env fs S Q h => by
  refine ha M H σ (hide env) S.g.nh S.sl.hid Q ?_
  unfold mH at h
  cases hm : a (hide env) with
  | ok x => rw [hm] at h; exact fun M' H' g v rv => h M' H' fs (S.behindH g) v rv
  | exc q =>
    rw [hm] at h
    obtain ⟨w, h1, h2⟩ := h
    exact ⟨w, h1, fun cls d N' H' g hx => h2 cls d _ H' fs (S.behindH g) hx⟩
  | bad => rw [hm] at h; exact h
theorem eam_nil : EvAM K C tNil mNil := fun B M H σ env fs S Q h => h M H fs S [] .nil
theorem eam_cons (ha : EvM K C ta ma) (hr : EvAM K C t m) : EvAM K C (tCons ta t) (mCons ma m) := fun B M H σ env fs S Q h => by
  refine ha.go S (PostM.imp (PostM.bind h) fun x e M1 H1 fs1 _ h1 S1 l1 v rv => ?_)
  refine hr.go S1 (PostM.imp (PostM.bind h1) fun xs e2 M2 H2 fs2 _ h2 S2 l2 vs rvs => ?_)
  exact h2 M2 H2 fs2 S2 (v :: vs) (.cons (rv.mono l2) rvs)
/-- the place's tree, and how it changes, what stays growing -/
theorem SR.foc2 (S : SR K B M H σ env fs) {i : Nat} {b : Bool} {t t' : Tr} {p : List Stp} (hi : env[i]? = some (mkT b t)) (hg : getAt p t = some t') : ∃ v0 v' f', σ[i]? = some (some v0) ∧ addrAt H p v0 = some v' ∧ RT K M H v' t' f' ∧ f'.Nodup ∧ (∀ a ∈ f', a ∈ fs) ∧
    ∀ {N' H' : Hp} {u : Tr} {f'' : List Addr}, Aft M H f' N' H' f'' → RT K N' H' v' u f'' → ∃ fs', SR K B N' H' σ (env.set i (mkT b (setAt p u t))) fs' := by
  obtain ⟨s0, g1, f, g2, h1, h2, h3, h4⟩ := S.sl.at hi
  obtain ⟨v, rfl, r, mk⟩ := h3.tree
  obtain ⟨v', f1, f', f2, k1, k2, k3, k4⟩ := RT.foc p r hg
  subst k3
  have nd := S.nd
  rw [h2] at nd
  have nd2 : (f1 ++ (f' ++ f2)).Nodup := (List.nodup_append.mp (List.nodup_append.mp nd).2.1).1
  have nd3 : f'.Nodup := (List.nodup_append.mp (List.nodup_append.mp nd2).2.1).1
  have sub : ∀ a ∈ f', a ∈ fs := fun a ha => by rw [h2]; simp [ha]
  refine ⟨v, v', f', h1, k1, k2, nd3, sub, fun {N' H' u f''} A q => ?_⟩
  have hset : σ.set i (some v) = σ := by
    obtain ⟨hl, he⟩ := List.getElem?_eq_some_iff.mp h1
    rw [← he, List.set_getElem_self]
  have out : ∀ a, a ∈ fs → a ∉ f' → H' a = H a := fun a ha hn => by
    obtain ⟨o, hq, ho⟩ := S.sl.kinds a ha
    rw [hq, A.out.to a hn o hq (own_ntb ho)]
  have n1 : ∀ a ∈ f1 ++ f2, a ∉ f' := fun a ha hb => by
    rcases List.mem_append.mp ha with ha | ha
    · exact (List.nodup_append.mp nd2).2.2 a ha a (by simp [hb]) rfl
    · exact (List.nodup_append.mp (List.nodup_append.mp nd2).2.1).2.2 a hb a ha rfl
  have n2 : ∀ a ∈ g1 ++ g2, a ∉ f1 ++ (f' ++ f2) := fun a ha hb => by
    rcases List.mem_append.mp ha with ha | ha
    · exact (List.nodup_append.mp nd).2.2 a ha a (List.mem_append_left _ hb) rfl
    · exact (List.nodup_append.mp (List.nodup_append.mp nd).2.1).2.2 a hb a ha rfl
  have q2 := k4 (M' := N') (H' := H') A.nn (fun a ha => out a (by
    rw [h2]
    simp only [List.mem_append] at ha ⊢
    rcases ha with ha | ha <;> simp [ha]) (n1 a ha)) q
  have hsl := h4 (M' := N') (H' := H') (s' := some v) (e' := mkT b (setAt p u t)) (f' := f1 ++ (f'' ++ f2)) A.nn (fun a ha => out a (by
    rw [h2]
    simp only [List.mem_append] at ha ⊢
    rcases ha with ha | ha <;> simp [ha]) fun hb => n2 a ha (by simp [hb])) (mk q2)
  rw [hset] at hsl
  have newf : ∀ a ∈ f'', a ∈ fs → a ∈ f' := fun a ha hb => by
    rcases (A.fr a ha).2 with h | h
    · exact h
    · exact absurd h (S.sl.known a hb)
  refine ⟨_, ⟨⟨fun b o qq nq => ?_, fun b qq => ?_⟩, S.g.nn.trans A.nn, A.nh, fun a qq => ?_⟩, S.lo.trans A.nn, fun a ha => ?_, ?_, hsl⟩
  · refine A.out.to b (fun hb => ?_) o (S.g.hh.to b o qq nq) nq
    rw [(S.fr b (sub b hb)).2] at qq; cases qq
  · by_cases hb : b ∈ f'
    · exact (S.fr b (sub b hb)).2
    · exact S.g.hh.ne b (A.out.ne b hb qq)
  · rcases A.nw a qq with h | h | h
    · exact S.g.nw a h
    · exact .inr (S.fr a (sub a h)).2
    · exact .inr (S.g.hh.free h)
  · by_cases hf : a ∈ f''
    · refine ⟨(A.fr a hf).1, ?_⟩
      rcases (A.fr a hf).2 with h | h
      · exact (S.fr a (sub a h)).2
      · exact S.g.hh.free h
    · have hfs : a ∈ fs := by
        rw [h2]
        simp only [List.mem_append] at ha ⊢
        rcases ha with ha | (ha | ha | ha) | ha
        · simp [ha]
        · simp [ha]
        · exact absurd ha hf
        · simp [ha]
        · simp [ha]
      have hn : a ∉ f' := by
        simp only [List.mem_append] at ha
        rcases ha with ha | (ha | ha | ha) | ha
        · exact fun hb => n2 a (by simp [ha]) (by simp [hb])
        · exact fun hb => n1 a (by simp [ha]) hb
        · exact absurd ha hf
        · exact fun hb => n1 a (by simp [ha]) hb
        · exact fun hb => n2 a (by simp [ha]) (by simp [hb])
      refine ⟨?_, (S.fr a hfs).2⟩
      cases hq : N' a with
      | none => rfl
      | some o =>
        rcases A.nw a (by rw [hq]; simp) with h | h | h
        · exact absurd (S.fr a hfs).1 h
        · exact absurd h hn
        · exact absurd h (S.sl.known a hfs)
  · refine nodup_mid nd ?_ fun a ha hb => ?_
    · refine nodup_mid nd2 A.nd fun a ha hb => ?_
      exact n1 a hb (newf a ha (by
        rw [h2]
        simp only [List.mem_append] at hb ⊢
        rcases hb with hb | hb <;> simp [hb]))
    · simp only [List.mem_append] at ha
      have hfs : a ∈ fs := by
        rw [h2]
        simp only [List.mem_append] at hb ⊢
        rcases hb with hb | hb <;> simp [hb]
      rcases ha with ha | ha | ha
      · exact n2 a hb (by simp [ha])
      · exact n2 a hb (by simp [newf a ha hfs])
      · exact n2 a hb (by simp [ha])
theorem treeAt_mk {e : Env} {i : Nat} {π : List Stp} {t' : Tr} (h : treeAt e i π = some t') : ∃ b t, e[i]? = some (mkT b t) ∧ getAt π t = some t' := by
  unfold treeAt at h
  split at h
  · rename_i t ht; exact ⟨false, t, ht, h⟩
  · rename_i t ht; exact ⟨true, t, ht, h⟩
  · cases h
/-- f at a tree: its promise -/
theorem app_ok {k i : Nat} {f : MFn} {π : List Stp} {xs : List Val} {vs : List V} {v0 v' : V} {Q : VK} (hk : ∀ t xs, f t xs ≠ .bad → xs.length = k) (S : SR K B M H σ env fs) (h0 : σ[i]? = some (some v0)) (ha : addrAt H π v0 = some v') (r : RVs K M vs xs)
    (h : PostM K C B σ (mApp f i π xs env) (fun y _ M' H' _ => ∀ v, RV K M' v y → Q v H')) : spM K C.XR k f (v' :: vs) H Q (CE C σ) := by
  unfold mApp at h
  cases ht : treeAt env i π with
  | none => rw [ht] at h; exact h.elim
  | some t' =>
    rw [ht] at h
    obtain ⟨b, t, h1, h2⟩ := treeAt_mk ht
    obtain ⟨v0', v'', f', k1, k2, k3, k4, k5, k6⟩ := S.foc2 h1 h2
    rw [h0] at k1
    cases k1
    rw [ha] at k2
    cases k2
    refine ⟨v', vs, M, t', f', xs, rfl, S.g.nh, k3, k4, fun a ha => (S.fr a (k5 a ha)).1, r, hk t' xs fun z => ?_, ?_⟩
    · simp only [z] at h
      exact h
    · simp only [putPl_at h1] at h
      cases hf : f t' xs with
      | bad => simp only [hf] at h; exact h
      | ret y u =>
        simp only [hf] at h
        intro N' H' fv' A rt v rv
        obtain ⟨fs', S'⟩ := k6 A rt
        exact h N' H' fs' S' v rv
      | exc q u =>
        simp only [hf] at h
        obtain ⟨w, hw, h⟩ := h
        intro cls d N' H' fv' A rt hx
        obtain ⟨fs', S'⟩ := k6 A rt
        show CE C σ cls d H'
        unfold CE
        rw [hw]
        exact h cls d N' H' fs' S' hx
end
end Vm
namespace Vm
open PySem L2 PyProof.Rows
variable [TabsOf]
section
variable {α β : Type} {K : PySem.W.Frag} {C : Cn} {B : Bs} {M H : Hp} {σ : L2.St} {env : Env} {fs : List Addr} {ta tb te : TE} {ma mb : EM} {t : TA} {m : AM} {D : Ends}
/-- o.m(e, ..), what it raises wished for at the slots -/
def tMethS (C : Addr) (m : Str) (sp : Sp) (E : L2.St → XK) (ta : TE) (t : TA) : TE := fun σ H Q => ta σ H fun x H1 => ∃ a dx fs, x = .ref a ∧ H1 a = some (.ins C dx fs) ∧ fs.lookup m = none ∧ t σ H1 fun vs H2 => sp (x :: vs) H2 Q (E σ)
theorem RTo.lookNone : ∀ {ts : List (Str × Tr)} {vs : List (Str × V)} {f : List Addr} {m : Str}, RTo K M H vs ts f → lookF ts m = none → vs.lookup m = none
  | [], _, _, _, .nil, _ => rfl
  | (q, t) :: ts, _, _, m, .cons (v := v) (vs := vs) r r', h => by
    unfold lookF at h
    split at h
    · cases h
    · rename_i hq
      have : (m == q) = false := by rw [beq_eq_false_iff_ne]; exact fun z => hq z.symm
      rw [List.lookup_cons, this]
      exact RTo.lookNone r' h
theorem isO_at {c m : Str} {o : Option Tr} (h : isO c m o = true) : ∃ fs, o = some (.o c fs) ∧ lookF fs m = none := by
  unfold isO at h
  split at h
  · rename_i c' fs
    rw [Bool.and_eq_true, decide_eq_true_eq, Option.isNone_iff_eq_none] at h
    obtain ⟨rfl, h2⟩ := h
    exact ⟨fs, rfl, h2⟩
  · cases h
theorem obj_at (S : SR K B M H σ env fs) {i : Nat} {π : List Stp} {c m : Str} (h : isO c m (treeAt env i π) = true) : ∃ v0 a dx vs, σ[i]? = some (some v0) ∧ addrAt H π v0 = some (.ref a) ∧ H a = some (.ins (He.ga K c) dx vs) ∧ vs.lookup m = none := by
  obtain ⟨ts, h1, h2⟩ := isO_at h
  obtain ⟨b, t, h3, h4⟩ := treeAt_mk h1
  obtain ⟨v0, v', f', k1, k2, k3, _⟩ := S.foc h3 h4
  cases k3 with
  | @o a dx _ vs _ f hh hd r => exact ⟨v0, a, dx, vs, k1, k2, hh, r.lookNone h2⟩
theorem em_meth {c mm : Str} {k i : Nat} {f : MFn} (hk : ∀ t xs, f t xs ≠ .bad → xs.length = k) (ha : EvAM K C t m) : EvM K C (tMethS (He.ga K c) mm (spM K C.XR k f) (CE C) (tVar i) t) (mMeth c mm i f m) := fun B M H σ env fs S Q h => by
  obtain ⟨ho, h⟩ := PostM.ite h
  obtain ⟨v0, a, dx, vs, h1, h2, h3, h4⟩ := obj_at S ho
  cases h2
  refine ⟨.ref a, h1, a, dx, vs, rfl, h3, h4, ?_⟩
  refine ha.go S (PostM.imp (PostM.bind h) fun xs e M1 H1 fs1 _ h1' S1 l1 ws rws => ?_)
  exact app_ok hk S1 h1 rfl rws h1'
theorem em_call {k i : Nat} {f : MFn} (hk : ∀ t xs, f t xs ≠ .bad → xs.length = k) (ha : EvAM K C t m) : EvM K C (tCallS (spM K C.XR k f) (CE C) (tCons (tVar i) t)) (mCall i f m) := fun B M H σ env fs S Q h => by
  obtain ⟨ho, h⟩ := PostM.ite h
  obtain ⟨u, hu⟩ := Option.isSome_iff_exists.mp ho
  obtain ⟨b, tr, h3, h4⟩ := treeAt_mk hu
  obtain ⟨v0, v', f', k1, k2, _⟩ := S.foc h3 h4
  cases k2
  refine ⟨v0, k1, ?_⟩
  refine ha.go S (PostM.imp (PostM.bind h) fun xs e M1 H1 fs1 _ h1' S1 l1 ws rws => ?_)
  exact app_ok hk S1 k1 rfl rws h1'
theorem em_tup (ha : EvAM K C t m) : EvM K C (tTup t) (mTup m) := fun B M H σ env fs S Q h => by
  refine ha.go S (PostM.imp (PostM.bind h) fun xs e M1 H1 fs1 _ h1 S1 l1 vs rvs => ?_)
  obtain ⟨z, hz, h2⟩ := PostM.res (by unfold vTup; exact nx_ite nx_ok nx_bad) h1
  unfold vTup at hz
  split at hz
  · rename_i hl
    cases hz
    refine ⟨by rw [line_eq, rvs.length]; exact hl, fun p hp => ?_⟩
    have g := Gr.new (o := .tup vs) S1.g.nh hp
    exact h2 _ _ fs1 (S1.behindH g) _ (.tup (SqP.of upd_same) (rvs.mono g.nn))
  · cases hz
/-- f(e, ..), f changes nothing, its arguments may -/
def mFn (f : Fn) (a : AM) : EM := fun env => (a env).bind fun xs e => ((f xs).res).rs e
def mArgs (f : List Val → Res Val) (a : AM) : EM := fun env => (a env).bind fun xs e => (f xs).rs e
theorem PostM.asBl {x : Val} {f : Bool → Env → RS β} {P : β → Env → Hp → Hp → List Addr → Prop} (h : PostM K C B σ (((asBl x).rs env).bind f) P) : ∃ k, x = .bl k ∧ PostM K C B σ (f k env) P := by
  cases x with
  | bl k => exact ⟨k, rfl, h⟩
  | _ => exact h.elim
theorem ebm_p {tt : TT} {mt : EB} (ht : EvB K C tt mt) : EvBM K C tt (bmP mt) := fun B M H σ env fs S Q h => by
  refine ht _ H σ env (full_sub S) S.sv Q ?_
  unfold bmP at h
  cases hm : mt env with
  | ok x => rw [hm] at h; exact fun N' H' g => h _ H' fs (S.behind g)
  | exc q =>
    rw [hm] at h
    obtain ⟨w, h1, h2⟩ := h
    exact ⟨w, h1, fun cls d N' H' g hx => h2 cls d _ H' fs (S.behind g) hx⟩
  | bad => rw [hm] at h; exact h
theorem ebm_t (ha : EvM K C ta ma) : EvBM K C (tTru K ta) (bmT ma) := fun B M H σ env fs S Q h => by
  refine ha.go S (PostM.imp (PostM.bind h) fun x e M1 H1 fs1 _ h1 S1 l1 v rv => ?_)
  obtain ⟨k, hk, h2⟩ := PostM.res (nx_truth x) h1
  exact ⟨k, rv.tru S1.g.nh hk, h2 M1 H1 fs1 S1⟩
theorem ebm_not {t : TT} {m : BM} (ha : EvBM K C t m) : EvBM K C (tNot t) (bmNot m) := fun B M H σ env fs S Q h => by
  refine ha.go S (PostM.imp (PostM.bind h) fun x e M1 H1 fs1 _ h1 S1 => ?_)
  exact h1 M1 H1 fs1 S1
theorem es_dropM (ha : EvM K C te ma) : EvS K C (tDrop te) (sDropM ma) := fun B M H σ env fs S D h => by
  refine ha.go S (PostM.imp (PostM.flow h) fun x e M1 H1 fs1 _ h1 S1 l1 v rv => ?_)
  exact h1 M1 H1 σ fs1 S1
theorem es_retM (ha : EvM K C te ma) : EvS K C (tRet te) (sRetM ma) := fun B M H σ env fs S D h => by
  refine ha.go S (PostM.imp (PostM.flow h) fun x e M1 H1 fs1 _ h1 S1 l1 v rv => ?_)
  exact h1 M1 (full M1 H1 fs1) H1 v σ fs1 S1.unR (sub_full S1) (S1.kindsN (Gr.refl (full_sub S1))) (full_gr S1) (rv.mono (sub_full S1)) fun _ => rv
theorem unR_mkR {B : Bs} {M H : Hp} {σ : L2.St} {e : Env} {fs : List Addr} (S : SR K B M H σ e fs) : unR (mkR e) = e := by
  have h := S.notR
  cases e with
  | nil => rfl
  | cons s r => cases s <;> first | rfl | cases h
theorem es_retW (ha : EvM K C te ma) : EvS K C (tRet te) (sRetW ma) := fun B M H σ env fs S D h => by
  refine ha.go S (PostM.imp (PostM.flow h) fun x e M1 H1 fs1 _ h1 S1 l1 v rv => ?_)
  exact h1 M1 (full M1 H1 fs1) H1 v σ fs1 (by rw [unR_mkR S1]; exact S1) (sub_full S1) (S1.kindsN (Gr.refl (full_sub S1))) (full_gr S1) (rv.mono (sub_full S1)) fun _ => rv
theorem es_ifM {tt : TT} {mt : BM} {t u : TS} {m n : ST} (hc : EvBM K C tt mt) (h1 : EvS K C t m) (h2 : EvS K C u n) : EvS K C (tIfS tt t u) (sIfM mt m n) := fun B M H σ env fs S D h => by
  refine hc.go S (PostM.imp (PostM.flow h) fun b e M1 H1 fs1 _ hq S1 => ?_)
  cases b with
  | true => exact h1 B _ H1 σ e fs1 S1 D hq
  | false => exact h2 B _ H1 σ e fs1 S1 D hq
theorem es_appendM {i : Nat} (ha : EvM K C te ma) : EvS K C (tDrop (tBM K "list" rAppend (tVar i) (tCons te tNil))) (sAppendM i ma) := fun B M H σ env fs S D h => by
  unfold sAppendM at h
  split at h
  · rename_i xs hx
    obtain ⟨a, vs, h1, h2, h3, _⟩ := S.write hx
    refine ⟨.ref a, h1, .inl ⟨rfl, vs, SqL.of h2⟩, ?_⟩
    refine ha.go S (PostM.imp (PostM.flow h) fun x e M1 H1 fs1 _ hq S1 l1 v rv => ?_)
    split at hq
    · rename_i ys hy
      obtain ⟨hl, hq⟩ := PostF.ite hq
      obtain ⟨a', vs', k1, k2, k3, k4⟩ := S1.write hy
      rw [h1] at k1
      cases k1
      refine ⟨a, vs', v, rfl, rfl, k2, by rw [line_eq, k3.length]; exact hl, ?_⟩
      exact hq M1 _ σ fs1 (k4 (k3.append (.cons rv .nil)))
    · exact hq.elim
  · exact h.elim
theorem es_putM {g : TG} {put : Put} {is : List Nat} (hp : EvP K g put is) (hnx : ∀ x env, NX (put x env)) (ha : EvM K C te ma) : EvS K C (tAsg te g) (sPutM put ma) := fun B M H σ env fs S D h => by
  refine ha.go S (PostM.imp (PostM.flow h) fun x e M1 H1 fs1 _ hx S1 l1 v rv => ?_)
  cases hq : put x e with
  | bad => rw [hq] at hx; exact hx.elim
  | exc q => exact absurd hq (hnx x e q)
  | ok e' =>
    rw [hq] at hx
    refine hp M1 H1 σ e v x e' S1.g.nh rv hq _ fun l hl he => ?_
    obtain ⟨fs', S2⟩ := S1.sets (l := l) fun t ht => (hl t ht).2
    rw [← he] at S2
    exact hx M1 H1 _ fs' S2
end
end Vm
namespace Vm
open PySem L2 PyProof.Rows
variable [TabsOf]
def setFs (f : Str) (t : Tr) : List (Str × Tr) → List (Str × Tr)
  | [] => [(f, t)]
  | (g, x) :: r => if g = f then (g, t) :: r else (g, x) :: setFs f t r
def fldPut (c f : Str) (i : Nat) (t : Tr) (e : Env) : Flow := match treeAt e i [] with
  | some (.o c' fs) => if c' = c ∧ fs.length < 1000 then putPl e i [] (.o c (setFs f t fs)) else .bad
  | _ => .bad
/-- x.f = e: over what stays | over all, no list | a new tree | behind a change -/
def sFldH (c f : Str) (i : Nat) (a : EX) : ST := fun env => (a (hide env)).flow env fun x => fldPut c f i (.v x) env
def sFldT (c f : Str) (i : Nat) (m : ET) : ST := fun env => (m (hide env)).flow env fun t => fldPut c f i t env
section
variable {K : PySem.W.Frag} {C : Cn} {B : Bs} {M H : Hp} {σ : L2.St} {env : Env} {fs : List Addr} {ta tb te : TE} {ma mb : EM} {t : TA} {m : AM} {D : Ends}
theorem RTo.len : ∀ {ts : List (Str × Tr)} {vs : List (Str × V)} {f : List Addr}, RTo K M H vs ts f → vs.length = ts.length
  | [], _, _, .nil => rfl
  | _ :: _, _, _, .cons _ r => congrArg (· + 1) r.len
theorem RTo.setF {v : V} {u : Tr} {fv : List Addr} {k : Str} (hu : RT K M H v u fv) (nv : fv.Nodup) : ∀ {ts : List (Str × Tr)} {vs : List (Str × V)} {f : List Addr}, RTo K M H vs ts f → f.Nodup → (∀ a ∈ fv, a ∉ f) →
    ∃ f', RTo K M H (putF k v vs) (setFs k u ts) f' ∧ f'.Nodup ∧ ∀ a ∈ f', a ∈ f ∨ a ∈ fv
  | [], _, _, .nil, _, _ => ⟨fv ++ [], .cons hu .nil, by rw [List.append_nil]; exact nv, fun a ha => .inr (by simpa using ha)⟩
  | (q, t) :: ts, _, _, .cons (v := w) (vs := vs) (f := f) (fs := f2) r r', nd, dj => by
    have nd' := List.nodup_append.mp nd
    by_cases hq : q = k
    · refine ⟨fv ++ f2, ?_, List.nodup_append.mpr ⟨nv, nd'.2.1, fun a ha b hb z => ?_⟩, fun a ha => ?_⟩
      · show RTo K M H (if q = k then (q, v) :: vs else (q, w) :: putF k v vs) (if q = k then (q, u) :: ts else (q, t) :: setFs k u ts) _
        rw [if_pos hq, if_pos hq]
        exact .cons hu r'
      · subst z
        exact dj a ha (List.mem_append_right _ hb)
      · rcases List.mem_append.mp ha with h | h
        · exact .inr h
        · exact .inl (List.mem_append_right _ h)
    · obtain ⟨f', h1, h2, h3⟩ := RTo.setF hu nv (k := k) r' nd'.2.1 fun a ha hb => dj a ha (List.mem_append_right _ hb)
      refine ⟨f ++ f', ?_, List.nodup_append.mpr ⟨nd'.1, h2, fun a ha b hb z => ?_⟩, fun a ha => ?_⟩
      · show RTo K M H (if q = k then (q, v) :: vs else (q, w) :: putF k v vs) (if q = k then (q, u) :: ts else (q, t) :: setFs k u ts) _
        rw [if_neg hq, if_neg hq]
        exact .cons r h1
      · subst z
        rcases h3 a hb with h | h
        · exact nd'.2.2 a ha a h rfl
        · exact dj a h (List.mem_append_left _ ha)
      · rcases List.mem_append.mp ha with h | h
        · exact .inl (List.mem_append_left _ h)
        · rcases h3 a h with h | h
          · exact .inl (List.mem_append_right _ h)
          · exact .inr h
/-- the field is written -/
theorem fld_ok {c f : Str} {i : Nat} {u : Tr} {v : V} {fv : List Addr} {H' : Hp} (hc : Cls K (He.ga K c)) (hn : NoAttr K (He.ga K c) f) (S : SR K B M H σ env fs) (e : Sub H H') (r : RT K M H' v u fv) (nv : fv.Nodup) (fr : ∀ a ∈ fv, H a = none)
    (h : PostF K C B D (fldPut c f i u env)) : tVar i σ H' fun x H2 => ∃ a C dx fs, x = .ref a ∧ H2 a = some (.ins C dx fs) ∧ Cls K C ∧ NoAttr K C f ∧ fs.length < 1000 ∧ D.nx σ (upd H2 a (.ins C dx (putF f v fs))) := by
  unfold fldPut at h
  split at h
  · rename_i c' ts ht
    obtain ⟨⟨rfl, hl⟩, h⟩ := PostF.ite h
    obtain ⟨b, t, h1, h2⟩ := treeAt_mk ht
    cases h2
    obtain ⟨v0, v', f', k1, k2, k3, k4, k5, k6⟩ := S.foc2 h1 (p := []) rfl
    cases k2
    cases k3 with
    | @o a dx _ vs _ fl ha hd ro =>
      have ha' := e _ _ ha
      refine ⟨.ref a, k1, a, _, dx, vs, rfl, ha', hc, hn, by rw [ro.len]; exact hl, ?_⟩
      rw [putPl_at h1] at h
      have nd := List.nodup_cons.mp k4
      have nd2 := List.nodup_cons.mp nd.2
      have known : ∀ b ∈ a :: dx :: fl, H b ≠ none := fun b hb => S.sl.known b (k5 b hb)
      have dj : ∀ b ∈ fv, b ∉ a :: dx :: fl := fun b hb hb' => known b hb' (fr b hb)
      have e' : ∀ b ∈ fl, upd H' a (.ins (He.ga K c') dx (putF f v vs)) b = H b := fun b hb => by
        rw [upd_ne fun z => nd.1 (by rw [← z]; exact List.mem_cons_of_mem _ hb)]
        cases hq : H b with
        | none => exact absurd hq (known b (by simp [hb]))
        | some o => exact e b o hq
      have ro' := RTo.mono (Same.refl M) ts e' ro
      have hu' : RT K M (upd H' a (.ins (He.ga K c') dx (putF f v vs))) v u fv := RT.mono (Same.refl M) u (fun b hb => upd_ne fun z => dj b hb (by rw [z]; exact List.mem_cons_self)) r
      obtain ⟨f3, q1, q2, q3⟩ := ro'.setF (k := f) hu' nv nd2.2 fun b hb hb' => dj b hb (by simp [hb'])
      have hda : dx ≠ a := fun z => nd.1 (by rw [z]; exact List.mem_cons_self)
      have q3a : ∀ b ∈ f3, b ≠ a ∧ b ≠ dx := fun b hb => by
        rcases q3 b hb with h | h
        · exact ⟨fun z => nd.1 (by rw [← z]; exact List.mem_cons_of_mem _ h), fun z => nd2.1 (by rw [← z]; exact h)⟩
        · exact ⟨fun z => dj b h (by rw [z]; exact List.mem_cons_self), fun z => dj b h (by rw [z]; simp)⟩
      have rt : RT K M (upd H' a (.ins (He.ga K c') dx (putF f v vs))) (.ref a) (.o c' (setFs f u ts)) (a :: dx :: f3) := .o upd_same (by rw [upd_ne hda]; exact e _ _ hd) q1
      have Mn : ∀ b ∈ a :: dx :: fl, M b = none := fun b hb => (S.fr b (k5 b hb)).1
      obtain ⟨fs', S'⟩ := k6 (N' := M) (H' := upd H' a (.ins (He.ga K c') dx (putF f v vs))) (u := .o c' (setFs f u ts)) (f'' := a :: dx :: f3) ⟨Same.refl _, (S.g.nh.ext e).wr (Mn a (by simp)) ha', Out.of S.g.nh.tt (fun b hb => S.sl.kinds b (k5 b hb)) fun b hb o q => by
          rw [upd_ne fun z => hb (by rw [z]; exact List.mem_cons_self)]
          exact e _ _ q, fun b q => .inl q, List.nodup_cons.mpr ⟨fun hb => by
            rcases List.mem_cons.mp hb with hb | hb
            · exact hda hb.symm
            · exact (q3a _ hb).1 rfl, List.nodup_cons.mpr ⟨fun hb => (q3a _ hb).2 rfl, q2⟩⟩, fun b hb => by
          rcases List.mem_cons.mp hb with rfl | hb
          · exact ⟨Mn _ (by simp), .inl (by simp)⟩
          · rcases List.mem_cons.mp hb with rfl | hb
            · exact ⟨Mn _ (by simp), .inl (by simp)⟩
            · rcases q3 b hb with h | h
              · exact ⟨Mn b (by simp [h]), .inl (by simp [h])⟩
              · refine ⟨?_, .inr (fr b h)⟩
                cases hq : M b with
                | none => rfl
                | some o => have := S.g.nh b o hq; rw [fr b h] at this; cases this⟩ rt
      exact h M _ σ fs' S'
  · exact h.elim
theorem es_fldH {c f : Str} {i : Nat} {a : EX} (hc : Cls K (He.ga K c)) (hn : NoAttr K (He.ga K c) f) (ha : EvE K C te a) : EvS K C (sFld K (tVar i) te f) (sFldH c f i a) := fun B M H σ env fs S D h => by
  refine ha M H σ (hide env) S.g.nh S.sl.hid _ (post_hid S h fun x M' H' _ g S' hx v rv => ?_)
  exact fld_ok hc hn S' (Same.refl _) (.v rv) .nil (fun a ha => nomatch ha) hx
theorem es_fldT {c f : Str} {i : Nat} {m : ET} (hc : Cls K (He.ga K c)) (hn : NoAttr K (He.ga K c) f) (ha : EvT K C te m) : EvS K C (sFld K (tVar i) te f) (sFldT c f i m) := fun B M H σ env fs S D h => by
  refine ha M H σ (hide env) S.g.nh S.sl.hid _ (post_hid S h fun t M' H' _ g S' hx v H'' fv e r nd fr => ?_)
  exact fld_ok hc hn S' e r nd fr hx
end
end Vm
namespace Vm
open PySem L2 PyProof.Rows
variable [TabsOf]
/-- the module's own tuples of ints and texts -/
def NoKT (K : PySem.W.Frag) (st : Option (List Key → Bool)) : Prop := ∀ a (o : Obj) (its : Array Value) (n : Nat) (ks : List L2.Key), K.lookup a = some o → o.cls = .type "tuple" → o.data = .seq its n → Vals (ks.map L2.kV) its.toList → hasK st ks = true
theorem keysV_of : ∀ {ks : List L2.Key} {us : List Value}, Vals (ks.map L2.kV) us → keysV us = some ks
  | [], _, .nil => rfl
  | .inl i :: ks, _, .cons r rr => by
    obtain ⟨t, rfl⟩ := r
    show (keysV _).map _ = _
    rw [keysV_of rr]
    rfl
  | .inr x :: ks, _, .cons r rr => by
    obtain ⟨t, rfl⟩ := r
    show (keysV _).map _ = _
    rw [keysV_of rr]
    rfl
theorem ktB_ok {K : PySem.W.Frag} {st : Option (List Key → Bool)} (h : ktB st K = true) : NoKT K st := fun a o its n ks h1 h2 h3 h4 => by
  have := List.all_eq_true.mp h (a, o) (He.lookup_mem h1)
  simp only [h3, h2, keysV_of h4, decide_true, Bool.not_true, Bool.false_or] at this
  exact this
def keysL : List Val → Option (List Key)
  | [] => some []
  | x :: r => (keyOfV x).bind fun k => (keysL r).map (k :: ·)
def keysOf : Val → Option (List Key)
  | .tup xs => keysL xs
  | _ => none
def getK (kvs : List (List Key × Val)) (k : List Key) : Option Val := (kvs.find? fun kv => decide (kv.1 = k)).map (·.2)
def vIxT (st : Option (List Key → Bool)) (x k : Val) : Res Val := match x with
  | .dcT kvs => (match keysOf k with
    | some ks => if hasK st ks = true then .bad else Res.ofOpt (getK kvs ks)
    | none => .bad)
  | x => vIx x k
def vInT (st : Option (List Key → Bool)) (k x : Val) : Res Val := match x with
  | .dcT kvs => (match keysOf k with
    | some ks => if hasK st ks = true then .bad else .ok (.bl (getK kvs ks).isSome)
    | none => .bad)
  | x => vIn k x
def vNotInT (st : Option (List Key → Bool)) (k x : Val) : Res Val := rNot (vInT st k x)
section
variable {K : PySem.W.Frag} {N : Hp}
theorem keys_rv : ∀ {xs : List Val} {vs : List V} {ks : List Key}, RVs K N vs xs → keysL xs = some ks → vs = ks.map L2.kV
  | [], _, ks, .nil, h => by cases h; rfl
  | x :: xs, _, ks, .cons r rr, h => by
    unfold keysL at h
    cases hk : keyOfV x with
    | none => rw [hk] at h; cases h
    | some k =>
      rw [hk] at h
      replace h : (keysL xs).map (k :: ·) = some ks := h
      cases hs : keysL xs with
      | none => rw [hs] at h; cases h
      | some ks' =>
        rw [hs] at h
        cases h
        rw [List.map_cons, ← keys_rv rr hs, keyOf_rv r hk]
theorem key_plain {st : Option (List Key → Bool)} {v : V} {x : Val} {ks : List Key} (kt : NoKT K st) (r : RV K N v x) (h : keysOf x = some ks) (hn : hasK st ks = false) : ∃ b, v = .ref b ∧ N b = some (.tup (ks.map L2.kV)) := by
  cases r with
  | @tup a vs xs hs rs =>
    have e := keys_rv rs h
    subst e
    refine ⟨a, rfl, ?_⟩
    rcases hs with hs | ⟨o, its, n, h1, h2, h3, _, h4⟩
    · exact hs
    · have := kt a o its n ks h1 h2 h3 h4; rw [hn] at this; cases this
  | _ => cases h
theorem RTs.get {k : List Key} : ∀ {vs : List (List L2.Key × V)} {xs : List (List Key × Val)}, RTs K N vs xs → match getK xs k with
    | some x => ∃ v, valV vs k = some v ∧ RV K N v x
    | none => valV vs k = none
  | _, _, .nil => rfl
  | _, _, .cons (k := k0) (v := v) (vs := vs) (x := x) (xs := xs) h r => by
    have ih := RTs.get (k := k) r
    by_cases e : k0 = k
    · have h1 : getK ((k0, x) :: xs) k = some x := by simp [getK, List.find?_cons, e]
      rw [h1]
      exact ⟨v, valV_pos e, h⟩
    · have h1 : getK ((k0, x) :: xs) k = getK xs k := by simp [getK, List.find?_cons, e]
      rw [h1, valV_neg e]
      exact ih
theorem RTs.some {k : List Key} {vs : List (List L2.Key × V)} {xs : List (List Key × Val)} (r : RTs K N vs xs) : (valV vs k).isSome = (getK xs k).isSome := by
  have h := r.get (k := k)
  cases hg : getK xs k with
  | none => rw [hg] at h; simp only at h; rw [h]; rfl
  | some x => rw [hg] at h; obtain ⟨v, h1, _⟩ := h; rw [h1]; rfl
theorem nx_ixT (st : Option (List Key → Bool)) (x y : Val) : NX (vIxT st x y) := by
  unfold vIxT
  split
  · split
    · split
      · exact nx_bad
      · exact nx_ofOpt
    · exact nx_bad
  · exact nx_ixV _ _
theorem nx_inT (st : Option (List Key → Bool)) (x y : Val) : NX (vInT st x y) := by
  unfold vInT
  split
  · split
    · split
      · exact nx_bad
      · exact nx_ok
    · exact nx_bad
  · exact nx_inV _ _
theorem nx_notInT (st : Option (List Key → Bool)) (x y : Val) : NX (vNotInT st x y) := nx_not (nx_inT st x y)
theorem ops_ixT {st : Option (List Key → Bool)} (kt : NoKT K st) : OpS K (rIxV K) (vIxT st) := by
  intro N H e v w x y rx ry Q hh
  cases x with
  | dcT kvs =>
    obtain ⟨z, hz, k⟩ := hh
    cases rx with
    | @dcT a vs _ h r =>
      unfold vIxT at hz
      cases hk : keysOf y with
      | none => rw [hk] at hz; cases hz
      | some ks =>
        rw [hk] at hz
        replace hz : (if hasK st ks = true then Res.bad else Res.ofOpt (getK kvs ks)) = .ok z := hz
        split at hz
        · cases hz
        · rename_i hn
          have g := r.get (k := ks)
          cases hg : getK kvs ks with
          | none => rw [hg] at hz; cases hz
          | some x =>
            rw [hg] at hz g
            cases hz
            obtain ⟨u, h1, h2⟩ := g
            obtain ⟨b, rfl, hb⟩ := key_plain kt ry hk (by simpa using hn)
            refine .inr ⟨a, u, rfl, ?_, k N H (Gr.refl e) u h2⟩
            rw [← h1]
            exact DGet.t (e _ _ h) (e _ _ hb)
  | _ => exact ops_ixV N H e v w _ y rx ry Q hh
theorem ops_notInT {st : Option (List Key → Bool)} (kt : NoKT K st) : OpS K (rNotInW K) (vNotInT st) := by
  intro N H e v w x y rx ry Q hh
  cases y with
  | dcT kvs =>
    obtain ⟨z, hz, k⟩ := hh
    cases ry with
    | @dcT a vs _ h r =>
      unfold vNotInT vInT at hz
      cases hk : keysOf x with
      | none => rw [hk] at hz; cases hz
      | some ks =>
        rw [hk] at hz
        replace hz : rNot (if hasK st ks = true then Res.bad else Res.ok (Val.bl (getK kvs ks).isSome)) = .ok z := hz
        split at hz
        · cases hz
        · rename_i hn
          cases hz
          obtain ⟨b, rfl, hb⟩ := key_plain kt rx hk (by simpa using hn)
          refine .inr ⟨a, valV vs ks, rfl, DGet.t (e _ _ h) (e _ _ hb), ?_⟩
          rw [r.some]
          exact k N H (Gr.refl e) _ (.bl _)
  | _ => exact ops_notInW N H e v w x _ rx ry Q hh
end
/-- x.m(..), m changes nothing -/
def eMeth (c m : Str) (f : Fn) (a : EX) (r : EL) : EX := fun env => (a env).bind fun x => match x with
  | .ob c' fs => if c' = c ∧ (fs.lookup m).isNone = true then (r env).bind fun xs => (f (x :: xs)).res else .bad
  | _ => .bad
/-- C(..) as a new tree -/
def tMakeT (c : Str) (f : MFn) (a : EL) : ET := fun env => (a env).bind fun xs => match f (.o c []) xs with
  | .ret .non t => .ok t
  | .exc q _ => .exc q
  | _ => .bad
def tMakeS (C : Addr) (sp : Sp) (E : L2.St → XK) (t : TA) : TE := fun σ H Q => t σ H fun vs H1 => ∀ x dx, H1 x = none → H1 dx = none → dx ≠ x → sp (.ref x :: vs) (upd (upd H1 dx (.own x)) x (.ins C dx [])) (fun v H2 => v = .non ∧ Q (.ref x) H2) (E σ)
section
variable {K : PySem.W.Frag} {C : Cn} {B : Bs} {M H : Hp} {σ : L2.St} {env : Env} {fs : List Addr} {ta tb te : TE} {ma mb : EX} {t : TA} {m : EL} {D : Ends}
theorem RFs.lookNone {N : Hp} : ∀ {vs : List (Str × V)} {xs : List (Str × Val)} {f : Str}, RFs K N vs xs → xs.lookup f = none → vs.lookup f = none
  | _, _, f, .nil, _ => rfl
  | _, _, f, .cons (k := k) r rr, h => by
    rw [List.lookup_cons] at h ⊢
    cases hb : f == k with
    | true => rw [hb] at h; cases h
    | false => rw [hb] at h; exact RFs.lookNone rr h
theorem ev_meth {c mm : Str} {k : Nat} {f : Fn} (hk : ∀ xs, f xs ≠ .bad → xs.length = k + 1) (ha : EvE K C ta ma) (hr : EvA K C t m) : EvE K C (tMethS (He.ga K c) mm (spF K C.XR (k + 1) f) (CE C) ta t) (eMeth c mm f ma m) := fun N H σ env e s Q h => by
  refine ha N H σ env e s _ (PostR.imp (PostR.bind h) fun x N1 H1 g1 h1 v rv => ?_)
  cases rv with
  | @ob a dx c' fs ys hN rf =>
    by_cases hcc : c' = c ∧ (ys.lookup mm).isNone = true
    · replace h1 : PostR C σ N1 H1 (if c' = c ∧ (ys.lookup mm).isNone = true then (m env).bind fun xs => (f (.ob c' ys :: xs)).res else .bad) _ := h1
      rw [if_pos hcc] at h1
      obtain ⟨rfl, hl⟩ := hcc
      refine ⟨a, dx, fs, rfl, g1.nh _ _ hN, rf.lookNone (Option.isNone_iff_eq_none.mp hl), ?_⟩
      refine hr N1 H1 σ env g1.nh (s.mono g1.nn) _ (PostR.imp (PostR.bind h1) fun xs N2 H2 g2 h2 vs rvs => ?_)
      refine ⟨N2, .ob c' ys :: xs, g2.nh, .cons (.ob (g2.nn _ _ hN) (RFs.mono g2.nn _ rf)) rvs, hk _ fun z => (by rw [z] at h2; exact h2), ?_⟩
      cases hf : f (.ob c' ys :: xs) with
      | bad => rw [hf] at h2; exact h2
      | ret y => rw [hf] at h2; exact h2
      | exc q =>
        rw [hf] at h2
        obtain ⟨w, hw, h2⟩ := (show ExcP C σ N2 H2 q from h2)
        intro cls d N' H' g' hx
        show CE C σ cls d H'
        unfold CE
        rw [hw]
        exact h2 cls d N' H' g' hx
    · replace h1 : PostR C σ N1 H1 (if c' = c ∧ (ys.lookup mm).isNone = true then (m env).bind fun xs => (f (.ob c' ys :: xs)).res else .bad) _ := h1
      rw [if_neg hcc] at h1
      exact h1.elim
  | _ => exact h1.elim
theorem et_make {c : Str} {k : Nat} {f : MFn} (hk : ∀ t xs, f t xs ≠ .bad → xs.length = k) (hr : EvA K C t m) : EvT K C (tMakeS (He.ga K c) (spM K C.XR k f) (CE C) t) (tMakeT c f m) := fun N H σ env e s Q h => by
  refine hr N H σ env e s _ (PostR.imp (PostR.bind h) fun xs N1 H1 g1 h1 vs rvs x dx nx nd ne => ?_)
  have h0 : ∀ a o, H1 a = some o → (upd (upd H1 dx (.own x)) x (.ins (He.ga K c) dx [])) a = some o := fun a o q => by
    rw [upd_ne (ne_of_none q nx), upd_ne (ne_of_none q nd)]
    exact q
  have hn : ∀ a, (upd (upd H1 dx (.own x)) x (.ins (He.ga K c) dx [])) a = none → H1 a = none := fun a q => by
    cases hq : H1 a with
    | none => rfl
    | some o => rw [h0 a o hq] at q; cases q
  have nN : ∀ a ∈ [x, dx], N1 a = none := fun a ha => by
    cases hq : N1 a with
    | none => rfl
    | some o =>
      have := g1.nh a o hq
      rcases List.mem_cons.mp ha with rfl | ha
      · rw [nx] at this; cases this
      · rw [List.mem_singleton.mp ha, nd] at this; cases this
  have fvn : ∀ a ∈ [x, dx], H1 a = none := fun a ha => by
    rcases List.mem_cons.mp ha with rfl | ha
    · exact nx
    · rw [List.mem_singleton.mp ha]; exact nd
  refine ⟨.ref x, vs, N1, .o c [], [x, dx], xs, rfl, g1.nh.ext h0, .o upd_same (by rw [upd_ne ne]; exact upd_same) .nil, List.nodup_cons.mpr ⟨by simpa using ne.symm, List.nodup_cons.mpr ⟨by simp, .nil⟩⟩, nN, rvs, hk (.o c []) xs fun z => (by simp only [z] at h1; exact h1), ?_⟩
  have gr : ∀ {N' H' : Hp} {fv' : List Addr}, Aft N1 (upd (upd H1 dx (.own x)) x (.ins (He.ga K c) dx [])) [x, dx] N' H' fv' → Gr N1 H1 N' H' := fun {N' H' fv'} A => ⟨⟨fun a o q n => A.out.to a (fun ha => by rw [fvn a ha] at q; cases q) o (h0 a o q) n, fun a q => by
    by_cases ha : a ∈ [x, dx]
    · exact fvn a ha
    · exact hn a (A.out.ne a ha q)⟩, A.nn, A.nh, fun a q => by
    rcases A.nw a q with h | h | h
    · exact .inl h
    · exact .inr (fvn a h)
    · exact .inr (hn a h)⟩
  cases hf : f (.o c []) xs with
  | bad => simp only [hf] at h1; exact h1
  | exc q u =>
    simp only [hf] at h1
    obtain ⟨w, hw, h1⟩ := (show ExcP C σ N1 H1 q from h1)
    intro cls d N' H' fv' A rt hx
    show CE C σ cls d H'
    unfold CE
    rw [hw]
    exact h1 cls d N' H' (gr A) hx
  | ret y u =>
    cases y with
    | non =>
      simp only [hf] at h1
      intro N' H' fv' A rt v rv
      cases rv
      refine ⟨rfl, ?_⟩
      have g := gr A
      let Hm : Hp := fun a => if a ∈ fv' then none else H' a
      have sm : Sub Hm H' := fun a o q => by
        have q : (if a ∈ fv' then none else H' a) = some o := q
        split at q
        · cases q
        · exact q
      have gm : Gr N1 H1 N' Hm := ⟨g.hh.hidF fun a ha => by
          rcases (A.fr a ha).2 with h | h
          · exact fvn a h
          · exact hn a h, g.nn, g.nh.hidF (fun a ha => (A.fr a ha).1) (fun a ha => by
          obtain ⟨o, ho, hw⟩ := RT.kinds _ rt a ha
          exact ⟨o, ho, own_wr hw⟩), g.nw⟩
      exact h1 N' Hm gm (.ref x) H' fv' sm rt A.nd fun a ha => if_pos ha
    | _ => simp only [hf] at h1; exact h1.elim
end
def putDt {κ : Type} [DecidableEq κ] (ts : List (κ × Tr)) (k : κ) (t : Tr) : List (κ × Tr) := if (ts.any fun kv => decide (kv.1 = k)) = true then ts.map (fun kv => if kv.1 = k then (kv.1, t) else kv) else ts ++ [(k, t)]
def putAt (st : Option (List Key → Bool)) (q : Nat × List Stp × Tr) (x k : Val) (e : Env) : Flow := match q.2.2 with
  | .d ts => (match keyOfV k with
    | some key => if ts.length < 16777216 then putPl e q.1 q.2.1 (.d (putDt ts key (.v x))) else .bad
    | none => .bad)
  | .dT ts => (match keysOf k with
    | some ks => if ts.length < 16777216 ∧ hasK st ks = false then putPl e q.1 q.2.1 (.dT (putDt ts ks (.v x))) else .bad
    | none => .bad)
  | _ => .bad
def sAtPutN (st : Option (List Key → Bool)) (p : Pl) (b a : EX) : ST := fun env => (a env).flow env fun x => if x.noLst = true then (plAt p env).nx.flow env fun q => (b env).flow env fun k => putAt st q x k env else .bad
def sAtPutM (st : Option (List Key → Bool)) (p : Pl) (b : EX) (a : EM) : ST := fun env => (a env).flow fun x e => (plAt p e).nx.flow e fun q => (b e).flow e fun k => putAt st q x k e
section
variable {K : PySem.W.Frag} {C : Cn} {B : Bs} {M H : Hp} {σ : L2.St} {env : Env} {fs : List Addr} {D : Ends}
theorem RTd.put {k : Key} {v : V} {x : Val} (h : RV K M v x) : ∀ {ts : List (Key × Tr)} {vs : List (L2.Key × V)} {f : List Addr}, RTd K M H vs ts f → ∃ f', RTd K M H (putK vs k v) (putDt ts k (.v x)) f' ∧ f'.Sublist f := by
  have any : ∀ {ts : List (Key × Tr)} {vs : List (L2.Key × V)} {f : List Addr}, RTd K M H vs ts f → (vs.any fun kv => decide (kv.1 = k)) = (ts.any fun kv => decide (kv.1 = k)) := by
    intro ts
    induction ts with
    | nil => intro vs f r; cases r; rfl
    | cons t ts ih => intro vs f r; cases r with | cons r r' => rw [List.any_cons, List.any_cons, ih r']
  have mp : ∀ {ts : List (Key × Tr)} {vs : List (L2.Key × V)} {f : List Addr}, RTd K M H vs ts f → ∃ f', RTd K M H (vs.map fun kv => if kv.1 = k then (kv.1, v) else kv) (ts.map fun kv => if kv.1 = k then (kv.1, .v x) else kv) f' ∧ f'.Sublist f := by
    intro ts
    induction ts with
    | nil => intro vs f r; cases r; exact ⟨[], .nil, .refl _⟩
    | cons t ts ih =>
      intro vs f r
      cases r with
      | @cons k0 v0 vs t ts f1 f2 r r' =>
        obtain ⟨f', h1, h2⟩ := ih r'
        by_cases e : k0 = k
        · refine ⟨[] ++ f', ?_, ?_⟩
          · rw [List.map_cons, List.map_cons]
            simp only [e, if_true]
            exact .cons (.v h) h1
          · exact h2.trans (List.sublist_append_right _ _)
        · refine ⟨f1 ++ f', ?_, List.Sublist.append (.refl _) h2⟩
          rw [List.map_cons, List.map_cons]
          simp only [e, if_false]
          exact .cons r h1
  have sn : ∀ {ts : List (Key × Tr)} {vs : List (L2.Key × V)} {f : List Addr}, RTd K M H vs ts f → RTd K M H (vs ++ [(k, v)]) (ts ++ [(k, .v x)]) f := by
    intro ts
    induction ts with
    | nil => intro vs f r; cases r; exact .cons (f := []) (fs := []) (.v h) .nil
    | cons t ts ih => intro vs f r; cases r with | cons r r' => exact .cons r (ih r')
  intro ts vs f r
  unfold putK putDt
  rw [any r]
  split
  · exact mp r
  · exact ⟨f, sn r, .refl _⟩
theorem RTt.put {k : List Key} {v : V} {x : Val} (h : RV K M v x) : ∀ {ts : List (List Key × Tr)} {vs : List (List L2.Key × V)} {f : List Addr}, RTt K M H vs ts f → ∃ f', RTt K M H (putK vs k v) (putDt ts k (.v x)) f' ∧ f'.Sublist f := by
  have any : ∀ {ts : List (List Key × Tr)} {vs : List (List L2.Key × V)} {f : List Addr}, RTt K M H vs ts f → (vs.any fun kv => decide (kv.1 = k)) = (ts.any fun kv => decide (kv.1 = k)) := by
    intro ts
    induction ts with
    | nil => intro vs f r; cases r; rfl
    | cons t ts ih => intro vs f r; cases r with | cons r r' => rw [List.any_cons, List.any_cons, ih r']
  have mp : ∀ {ts : List (List Key × Tr)} {vs : List (List L2.Key × V)} {f : List Addr}, RTt K M H vs ts f → ∃ f', RTt K M H (vs.map fun kv => if kv.1 = k then (kv.1, v) else kv) (ts.map fun kv => if kv.1 = k then (kv.1, .v x) else kv) f' ∧ f'.Sublist f := by
    intro ts
    induction ts with
    | nil => intro vs f r; cases r; exact ⟨[], .nil, .refl _⟩
    | cons t ts ih =>
      intro vs f r
      cases r with
      | @cons k0 v0 vs t ts f1 f2 r r' =>
        obtain ⟨f', h1, h2⟩ := ih r'
        by_cases e : k0 = k
        · refine ⟨[] ++ f', ?_, ?_⟩
          · rw [List.map_cons, List.map_cons]
            simp only [e, if_true]
            exact .cons (.v h) h1
          · exact h2.trans (List.sublist_append_right _ _)
        · refine ⟨f1 ++ f', ?_, List.Sublist.append (.refl _) h2⟩
          rw [List.map_cons, List.map_cons]
          simp only [e, if_false]
          exact .cons r h1
  have sn : ∀ {ts : List (List Key × Tr)} {vs : List (List L2.Key × V)} {f : List Addr}, RTt K M H vs ts f → RTt K M H (vs ++ [(k, v)]) (ts ++ [(k, .v x)]) f := by
    intro ts
    induction ts with
    | nil => intro vs f r; cases r; exact .cons (f := []) (fs := []) (.v h) .nil
    | cons t ts ih => intro vs f r; cases r with | cons r r' => exact .cons r (ih r')
  intro ts vs f r
  unfold putK putDt
  rw [any r]
  split
  · exact mp r
  · exact ⟨f, sn r, .refl _⟩
theorem RTt.length : ∀ {ts : List (List Key × Tr)} {vs : List (List L2.Key × V)} {f : List Addr}, RTt K M H vs ts f → vs.length = ts.length
  | [], _, _, .nil => rfl
  | _ :: _, _, _, .cons _ r => congrArg (· + 1) r.length
/-- one object of the place is written, nothing new -/
theorem SR.wr (S : SR K B M H σ env fs) {i : Nat} {b : Bool} {t t' : Tr} {p : List Stp} (hi : env[i]? = some (mkT b t)) (hg : getAt p t = some t') {v0 v' : V} (h1 : σ[i]? = some (some v0)) (h2 : addrAt H p v0 = some v') :
    ∃ f', RT K M H v' t' f' ∧ f'.Nodup ∧ (∀ a ∈ f', H a ≠ none) ∧ ∀ {a : Addr} {o : HO} {u : Tr} {f'' : List Addr}, a ∈ f' → f''.Sublist f' → RT K M (upd H a o) v' u f'' → ∃ fs', SR K B M (upd H a o) σ (env.set i (mkT b (setAt p u t))) fs' := by
  obtain ⟨v0', v'', f', k1, k2, k3, k4, k5, k6⟩ := S.foc2 hi hg
  rw [h1] at k1; cases k1
  rw [h2] at k2; cases k2
  refine ⟨f', k3, k4, fun a ha => S.sl.known a (k5 a ha), fun {a o u f''} ha hs r => ?_⟩
  have Mn : ∀ b ∈ f', M b = none := fun b hb => (S.fr b (k5 b hb)).1
  obtain ⟨oa, hoa, hwa⟩ := S.sl.kinds a (k5 a ha)
  exact k6 (N' := M) ⟨Same.refl _, S.g.nh.wr (Mn a ha) hoa (own_wr hwa), Out.of S.g.nh.tt (fun b hb => S.sl.kinds b (k5 b hb)) fun b hb o' q => by
    rw [upd_ne fun z => hb (by rw [z]; exact ha)]
    exact q, fun b q => .inl q, hs.nodup k4, fun b hb => ⟨Mn b (hs.subset hb), .inl (hs.subset hb)⟩⟩ r
theorem putAt_ok {st : Option (List Key → Bool)} {tp ti : TE} {p : Pl} {b : EX} {v : V} {x : Val} (kt : NoKT K st) (hp : EvPl K tp p) (hb : EvE K C ti b) (S : SR K B M H σ env fs) (r : RV K M v x)
    (h : PostF K C B D ((plAt p env).nx.flow env fun q => (b env).flow env fun k => putAt st q x k env)) : tp σ H fun x H2 => ti σ H2 fun y H3 => ∃ a H4, x = .ref a ∧ DPut H3 a y v H4 ∧ D.nx σ H4 := by
  cases h1 : plAt p env with
  | bad => rw [h1] at h; exact h.elim
  | exc q => rw [h1] at h; exact h.elim
  | ok q =>
    obtain ⟨i, π, t'⟩ := q
    rw [h1] at h
    obtain ⟨⟨bb, t, ht, hg⟩, hrun⟩ := hp B M H σ env fs S (fun x H2 => ti σ H2 fun y H3 => ∃ a H4, x = .ref a ∧ DPut H3 a y v H4 ∧ D.nx σ H4) i π t' h1
    refine hrun fun M1 H1 v0 v' S1 e1 m1 hv hw => ?_
    refine hb _ H1 σ env (full_sub S1) S1.sv _ (post_full S1 h fun k N' H' _ g S' hk w rw' => ?_)
    have e1 : Sub M (part N' fs) := m1.trans fun b o q => by
      unfold part
      rw [if_neg fun h => by rw [(S1.fr b h).1] at q; cases q]
      exact g.nn b o (sub_full S1 b o q)
    obtain ⟨f', k1, k2, kn, k3⟩ := S'.wr ht hg hv (addrAt_mono g.hh π hw)
    unfold putAt at hk
    cases t' with
    | d ts =>
      cases k1 with
      | @d a vs _ f ha rd =>
        cases hq : keyOfV k with
        | none => simp only [hq] at hk; exact hk.elim
        | some key =>
          simp only [hq] at hk
          obtain ⟨hl, hk⟩ := PostF.ite hk
          obtain ⟨f2, r2, sl⟩ := rd.put (k := key) (r.mono e1)
          have nd := List.nodup_cons.mp k2
          have r3 := RTd.mono (Same.refl _) (putDt ts key (.v x)) (H' := upd H' a (.dK (putK vs key v))) (fun b hb => upd_ne fun z => nd.1 (by rw [← z]; exact sl.subset hb)) r2
          obtain ⟨fs', S2⟩ := k3 (a := a) (o := .dK (putK vs key v)) (u := .d (putDt ts key (.v x))) (f'' := a :: f2) List.mem_cons_self (sl.cons_cons a) (.d upd_same r3)
          rw [putPl_at ht] at hk
          refine ⟨a, upd H' a (.dK (putK vs key v)), rfl, ?_, hk _ _ σ fs' S2⟩
          rw [keyOf_rv rw' hq]
          exact DPut.k ha (by rw [line_eq, rd.length]; exact hl)
    | dT ts =>
      cases k1 with
      | @dT a vs _ f ha rd =>
        cases hq : keysOf k with
        | none => simp only [hq] at hk; exact hk.elim
        | some key =>
          simp only [hq] at hk
          obtain ⟨⟨hl, hn⟩, hk⟩ := PostF.ite hk
          obtain ⟨f2, r2, sl⟩ := rd.put (k := key) (r.mono e1)
          have nd := List.nodup_cons.mp k2
          have r3 := RTt.mono (Same.refl _) (putDt ts key (.v x)) (H' := upd H' a (.dT (putK vs key v))) (fun b hb => upd_ne fun z => nd.1 (by rw [← z]; exact sl.subset hb)) r2
          obtain ⟨fs', S2⟩ := k3 (a := a) (o := .dT (putK vs key v)) (u := .dT (putDt ts key (.v x))) (f'' := a :: f2) List.mem_cons_self (sl.cons_cons a) (.dT upd_same r3)
          obtain ⟨b', rfl, hb'⟩ := key_plain kt rw' hq hn
          rw [putPl_at ht] at hk
          exact ⟨a, upd H' a (.dT (putK vs key v)), rfl, DPut.t ha (g.nh _ _ hb') (by rw [line_eq, rd.length]; exact hl), hk _ _ σ fs' S2⟩
    | _ => exact hk.elim
theorem es_atPutN {st : Option (List Key → Bool)} {tp ti te : TE} {p : Pl} {b a : EX} (kt : NoKT K st) (hp : EvPl K tp p) (hb : EvE K C ti b) (ha : EvE K C te a) : EvS K C (sDPut tp ti te) (sAtPutN st p b a) := fun B M H σ env fs S D h => by
  refine ha _ H σ env (full_sub S) S.sv _ (post_full S h fun x N' H' _ g S' hx v rv => ?_)
  obtain ⟨hn, hx⟩ := PostF.ite hx
  exact putAt_ok kt hp hb S' (RV.strip (S.kindsN g) x rv hn) hx
theorem es_atPutM {st : Option (List Key → Bool)} {tp ti te : TE} {p : Pl} {b : EX} {a : EM} (kt : NoKT K st) (hp : EvPl K tp p) (hb : EvE K C ti b) (ha : EvM K C te a) : EvS K C (sDPut tp ti te) (sAtPutM st p b a) := fun B M H σ env fs S D h => by
  refine ha.go S (PostM.imp (PostM.flow h) fun x e M1 H1 fs1 _ hx S1 l1 v rv => ?_)
  exact putAt_ok kt hp hb S1 rv hx
end
end Vm
namespace Vm
open PySem L2 PyProof.Rows
variable [TabsOf]
section
variable (P : Program) (w : World) (K : PySem.W.Frag) (mg : Str → Option Value) (base : Heap) (XR : XRel)
/-- a def of the module that may change its first argument's tree -/
structure CalM (x : Str) (j k : Nat) (f : MFn) : Prop where
  ex : ∃ a fd ps, FnOk P w K mg base (L2.CX P w) j a fd ps (spM K XR k f) ∧ mg x = some (.ref a) ∧ PySem.W.keepIn K (.ref a) = true ∧ Binds K fd ps []
  ln : ∀ t xs, f t xs ≠ .bad → xs.length = k
/-- a method that may change its object -/
structure MetM (c m : Str) (j k : Nat) (f : MFn) : Prop where
  ex : ∃ a fd ps, FnOk P w K mg base (L2.CX P w) j a fd ps (spM K XR k f) ∧ Meth K (He.ga K c) m a ∧ Binds K fd ps []
  cl : Cls K (He.ga K c)
  ln : ∀ t xs, f t xs ≠ .bad → xs.length = k
/-- a method that only reads -/
structure MetF (c m : Str) (j k : Nat) (f : Fn) : Prop where
  ex : ∃ a fd ps, FnOk P w K mg base (L2.CX P w) j a fd ps (spF K XR (k + 1) f) ∧ Meth K (He.ga K c) m a ∧ Binds K fd ps []
  cl : Cls K (He.ga K c)
  ln : ∀ xs, f xs ≠ .bad → xs.length = k + 1
/-- a class: its __init__ -/
structure MakM (c : Str) (j k : Nat) (f : MFn) : Prop where
  ex : ∃ a fd ps, FnOk P w K mg base (L2.CX P w) j a fd ps (spM K XR k f) ∧ Mk K (He.ga K c) a ∧ Binds K fd ps []
  g : mg c = some (.ref (He.ga K c))
  ln : ∀ t xs, f t xs ≠ .bad → xs.length = k
end
theorem defnM_ne {k n : Nat} {m : ST} {t : Tr} {xs : List Val} (h : defnM k n m t xs ≠ .bad) : xs.length = k := by
  unfold defnM at h
  split at h
  · assumption
  · exact absurd rfl h
section
variable {P : Program} {w : World} {K : PySem.W.Frag} {mg : Str → Option Value} {base : Heap} {XR : XRel}
variable {x c qual : Str} {params : Arguments} {body : List Stmt} {scope : Scope} {f : Addr} {fd : FuncData} {N ps : List Str} {j k n : Nat} {m : ST}
abbrev BindsX (x qual : Str) (params : Arguments) (body : List Stmt) (scope : Scope) (ps : List Str) : Prop := ∀ (kV doc pm : Value) (an : Option Addr) (cdv ct : Value) (us : List Value), us.length = ps.length → bindArgs (PySem.W.fnOf x qual params body scope .none kV doc pm an cdv ct) ⟨us, []⟩ = pure (ps.zip us)
theorem calM_of (F : FunD K x qual params body scope [] [] f fd) (gm : mg x = some (.ref f)) (S : FnScope N ps scope) (hb : BindsX x qual params body scope ps) (hk : ps.length = k + 1) (hn : N.length = n) (h : Body P w K mg base XR j N qual scope body m) : CalM P w K mg base XR x (j + 1) k (defnM k n m) :=
  ⟨⟨f, fd, ps, fnM_ok F S hk hn h, gm, F.kp, F.bindsN hb⟩, fun _ _ => defnM_ne⟩
theorem metM_of (F : FunD K x qual params body scope [] [] f fd) (hm : Meth K (He.ga K c) x f) (cl : Cls K (He.ga K c)) (S : FnScope N ps scope) (hb : BindsX x qual params body scope ps) (hk : ps.length = k + 1) (hn : N.length = n) (h : Body P w K mg base XR j N qual scope body m) : MetM P w K mg base XR c x (j + 1) k (defnM k n m) :=
  ⟨⟨f, fd, ps, fnM_ok F S hk hn h, hm, F.bindsN hb⟩, cl, fun _ _ => defnM_ne⟩
theorem metF_of (F : FunD K x qual params body scope [] [] f fd) (hm : Meth K (He.ga K c) x f) (cl : Cls K (He.ga K c)) (S : FnScope N ps scope) (hb : BindsX x qual params body scope ps) (hk : ps.length = k + 1) (hn : N.length = n) (h : Body P w K mg base XR j N qual scope body m) : MetF P w K mg base XR c x (j + 1) k (defn (k + 1) n m) :=
  ⟨⟨f, fd, ps, fn_ok F S hk hn h, hm, F.bindsN hb⟩, cl, fun _ => defn_ne⟩
theorem makM_of (F : FunD K x qual params body scope [] [] f fd) (hm : Mk K (He.ga K c) f) (gm : mg c = some (.ref (He.ga K c))) (S : FnScope N ps scope) (hb : BindsX x qual params body scope ps) (hk : ps.length = k + 1) (hn : N.length = n) (h : Body P w K mg base XR j N qual scope body m) : MakM P w K mg base XR c (j + 1) k (defnM k n m) :=
  ⟨⟨f, fd, ps, fnM_ok F S hk hn h, hm, F.bindsN hb⟩, gm, fun _ _ => defnM_ne⟩
theorem FnOk.none {fd : FuncData} {sp' : Sp} (h : ∀ vs H Q E, ¬ sp' vs H Q E) : FnOk P w K mg base (L2.CX P w) j f fd ps sp' :=
  ⟨fun vs H Q E z => absurd z (h vs H Q E), fun A outer s H args us vs Q E hr he hb hv z => absurd z (h vs H Q E)⟩
end
section
variable {X : Cx} {CX : CXT} {k : Nat} {f C : Addr} {fd : FuncData} {ps : List Str} {sp : Sp} {E : L2.St → XK} {m x : Str} {p pos apos : Pos} {e o : Expr} {es : List Expr} {ta : TE} {t : TA}
theorem pe_methS {pl : Sem Bool} (he : PE X o ta) (c : Cls X.K C) (hm : Meth X.K C m f) (F : FnOk X.prog X.w X.K X.mg X.base CX k f fd ps sp) (hr : Room k X.A) (hb : Binds X.K fd ps []) (hx : ∀ σ, PassesAt CX X σ (E σ)) (ha : PA X (e :: es) t)
    (hst : starEach (e :: es) X.env = (false, eval e X.env) :: starEach es X.env := by rfl) (hpl : (backTo pos (starEach es X.env)).any (·.1) = false := by rfl)
    (ht : eval (.Call (.Attribute o m apos) (e :: es) [] pos) X.env = (do
      let ov ← eval o X.env
      standAt apos.atName
      let (f, first) ← holding [ov] (getMethod ov m pl)
      callWith pos f first (backTo pos (starEach (e :: es) X.env)) (backToKw pos (keywordEach [] X.env))) := by rfl) :
    PE X (.Call (.Attribute o m apos) (e :: es) [] pos) (tMethS C m sp E ta t) := by
  refine ⟨fun pins s σ H Q I h => ?_⟩
  refine PySem.W.methodCall_KW (pl := pl) (thn (he.run pins s σ H _ I h) fun u s1 ⟨x, H1, I1, rx, a, dx, fs, ex, ea, l, q⟩ => ?_) ht
  subst ex
  obtain rfl : u = Value.ref a := rx
  refine getmeth_ok I1 ea c hm l ?_
  refine PySem.W.callWith_K (first := [.ref a]) (h₀ := X.base) I.ok.mod.kin hm.kp (thn (ha.run pos pins s1 σ H1 _ I1 q) fun us s2 ⟨vs, H2, I2, r, q2⟩ => ⟨I2.kIn, ?_⟩) hst hpl
  exact run_fnS (us := .ref a :: us) (vs := .ref a :: vs) F hr hb (hx σ) I2 (.cons rfl r) q2
theorem pe_methS0 {pl : Sem Bool} (he : PE X o ta) (c : Cls X.K C) (hm : Meth X.K C m f) (F : FnOk X.prog X.w X.K X.mg X.base CX k f fd ps sp) (hr : Room k X.A) (hb : Binds X.K fd ps []) (hx : ∀ σ, PassesAt CX X σ (E σ))
    (ht : eval (.Call (.Attribute o m apos) [] [] pos) X.env = (do
      let ov ← eval o X.env
      standAt apos.atName
      let (f, first) ← holding [ov] (getMethod ov m pl)
      callWith pos f first (backTo pos (starEach [] X.env)) (backToKw pos (keywordEach [] X.env))) := by rfl) :
    PE X (.Call (.Attribute o m apos) [] [] pos) (tMethS C m sp E ta tNil) := by
  refine ⟨fun pins s σ H Q I h => ?_⟩
  refine PySem.W.methodCall_KW (pl := pl) (thn (he.run pins s σ H _ I h) fun u s1 ⟨x, H1, I1, rx, a, dx, fs, ex, ea, l, q⟩ => ?_) ht
  subst ex
  obtain rfl : u = Value.ref a := rx
  refine getmeth_ok I1 ea c hm l ?_
  exact PySem.W.callWith_K0 (first := [.ref a]) I1.kIn hm.kp (run_fnS (us := [.ref a]) (vs := [.ref a]) F hr hb (hx σ) I1 (.cons rfl .nil) q)
theorem run_makeS {pins : List (Addr × Obj)} {σ : L2.St} {H : Hp} {s : Shared} {Q : VK} {us : List Value} {vs : List V} (M : Mk X.K C f) (F : FnOk X.prog X.w X.K X.mg X.base CX k f fd ps sp) (hr : Room (k + 1) X.A) (hb : Binds X.K fd ps [])
    (hx : PassesAt CX X σ (E σ)) (I : Inv X pins σ H s) (r : Vals vs us)
    (h : ∀ x dx, H x = none → H dx = none → dx ≠ x → sp (.ref x :: vs) (upd (upd H dx (.own x)) x (.ins C dx [])) (fun v H2 => v = .non ∧ Q (.ref x) H2) (E σ)) :
    wpAny (model X.prog X.w) X.A (call (.ref C) us) (EP X pins σ Q) X.xe s := by
  have hq := h (s.heap.objs.size + 1) s.heap.objs.size (I.hok.fresh (Nat.le_succ _)) (I.hok.fresh (Nat.le_refl _)) (Nat.ne_of_lt (Nat.lt_succ_self _))
  have I2 := Inv.made (C := C) I
  have r2 : Vals (V.ref (s.heap.objs.size + 1) :: vs) (Value.ref (s.heap.objs.size + 1) :: us) := .cons rfl r
  have hl : (Value.ref (s.heap.objs.size + 1) :: us).length = ps.length := by
    have e := r2.length
    rw [F.len _ _ _ _ hq] at e
    exact e.symm
  have b := hb _ (Value.ref (s.heap.objs.size + 1) :: us) I2.kIn (by rw [List.append_nil]; exact hl)
  rw [List.append_nil] at b
  refine wpAny_call (make_map (f := f) I.kIn M.makes M.init (beq_iff_eq.mp M.fn) (codeAny_mono (F.run _ X.stack _ _ ⟨Value.ref (s.heap.objs.size + 1) :: us, []⟩ (Value.ref (s.heap.objs.size + 1) :: us) _ _ (E σ) (hr.make C us [])
    (I2.env0.make C us []) b r2 hq) fun r s' hq' => ?_))
  cases r with
  | error e => exact hx pins _ _ e s' I2 hq'
  | ok fl =>
    cases fl with
    | ret u =>
      obtain ⟨v, H', I3, rv, ev, q3⟩ := I2.after hq'
      subst ev
      exact ⟨rv, ⟨V.ref (s.heap.objs.size + 1), H', I3, rfl, q3⟩⟩
    | next => exact False.elim hq'
    | brk => exact False.elim hq'
    | cont => exact False.elim hq'
theorem pe_makeS (M : Mk X.K C f) (F : FnOk X.prog X.w X.K X.mg X.base CX k f fd ps sp) (hr : Room (k + 1) X.A) (hg : Gl X x) (hm : X.mg x = some (.ref C)) (hb : Binds X.K fd ps []) (hx : ∀ σ, PassesAt CX X σ (E σ))
    (ha : PA X (e :: es) t) (hdb : (x == ("__debug__" : Str)) = false := by decide) (he : starEach (e :: es) X.env = (false, eval e X.env) :: starEach es X.env := by rfl) (hpl : (backTo pos (starEach es X.env)).any (·.1) = false := by rfl) :
    PE X (.Call (.Name x p) (e :: es) [] pos) (tMakeS C sp E t) := by
  refine ⟨fun pins s σ H Q I h => ?_⟩
  refine wpAny_Call_Name_kw (ld_glob I hg hm ?_ hdb)
  refine PySem.W.callWith_K (h₀ := X.base) I.ok.mod.kin M.kp (thn (ha.run pos pins s σ H _ I h) fun us s1 ⟨vs, H1, I1, r, q⟩ => ⟨I1.kIn, ?_⟩) he hpl
  exact run_makeS M F hr hb (hx σ) I1 r q
end
structure SM (X : Cx) (C : Cn) (e : Expr) (te : TE) (m : EM) : Prop where
  pe : PE X e te
  ev : EvM X.K C te m
structure SAM (X : Cx) (C : Cn) (es : List Expr) (te : TA) (m : AM) : Prop where
  pe : PA X es te
  ev : EvAM X.K C te m
structure SBM (X : Cx) (C : Cn) (e : Expr) (te : TT) (m : BM) : Prop where
  pe : PT X e te
  ev : EvBM X.K C te m
section
variable {X : Cx} {C : Cn} {a b c : Expr} {ta tb tc tk tp : TE} {ma mb mc : EX} {na nb : EM} {pos p p2 pos' apos : Pos} {e : Expr} {es : List Expr} {rest : List Stmt} {u t2 : TS} {n n1 n2 : ST} {t : TA} {m : AM} {ml : EL} {x mm cn : Str} {j k : Nat}
theorem sm_h (h : SE X C a ta ma) : SM X C a ta (mH ma) := ⟨h.pe, em_h h.ev⟩
theorem sam_nil : SAM X C [] tNil mNil := ⟨pa_nil, eam_nil⟩
theorem sam_cons (ha : SM X C a ta na) (hr : SAM X C es t m) (hs : starEach (a :: es) X.env = (false, eval a X.env) :: starEach es X.env := by rfl) : SAM X C (a :: es) (tCons ta t) (mCons na m) := ⟨pa_cons ha.pe hr.pe hs, eam_cons ha.ev hr.ev⟩
/-- x.m(e, ..) -/
theorem sm_meth (i : Nat) {f : MFn} {pl : Sem Bool} (cc : MetM X.prog X.w X.K X.mg X.base C.XR cn mm j k f) (hr : Room j X.A) (hl : Lets X C) (ha : SAM X C (e :: es) t m) (hN : X.N[i]? = some x := by rfl) (hv : Vis X.env.scope x := by first | exact Or.inl rfl | exact Or.inr (Or.inl rfl) | exact Or.inr (Or.inr rfl)) (hd : (x == ("__debug__" : Str)) = false := by decide)
    (hcd : (x == ("__classdict__" : Str)) = false := by decide) (hst : starEach (e :: es) X.env = (false, eval e X.env) :: starEach es X.env := by rfl) (hpl : (backTo pos (starEach es X.env)).any (·.1) = false := by rfl)
    (ht : eval (.Call (.Attribute (.Name x p) mm apos) (e :: es) [] pos) X.env = (do
      let ov ← eval (.Name x p) X.env
      standAt apos.atName
      let (f, first) ← holding [ov] (getMethod ov mm pl)
      callWith pos f first (backTo pos (starEach (e :: es) X.env)) (backToKw pos (keywordEach [] X.env))) := by rfl) :
    SM X C (.Call (.Attribute (.Name x p) mm apos) (e :: es) [] pos) (tMethS (He.ga X.K cn) mm (spM X.K C.XR k f) (CE C) (tVar i) t) (mMeth cn mm i f m) := by
  obtain ⟨a, fd, ps, F, hm, hb⟩ := cc.ex
  exact ⟨pe_methS (pv i hN hv hd hcd) cc.cl hm F hr hb hl ha.pe hst hpl ht, em_meth cc.ln ha.ev⟩
/-- f(y, e, ..), y's tree may change -/
theorem sm_call (i : Nat) {y : Str} {f : MFn} (cc : CalM X.prog X.w X.K X.mg X.base C.XR x j k f) (hr : Room j X.A) (hl : Lets X C) (ha : SAM X C es t m) (hN : X.N[i]? = some y := by rfl) (hv : Vis X.env.scope y := by first | exact Or.inl rfl | exact Or.inr (Or.inl rfl) | exact Or.inr (Or.inr rfl)) (hd : (y == ("__debug__" : Str)) = false := by decide)
    (hcd : (y == ("__classdict__" : Str)) = false := by decide) (hg : Gl X x := by rfl) (hdb : (x == ("__debug__" : Str)) = false := by decide) (he : starEach (.Name y p2 :: es) X.env = (false, eval (.Name y p2) X.env) :: starEach es X.env := by rfl) (hpl : (backTo pos (starEach es X.env)).any (·.1) = false := by rfl) :
    SM X C (.Call (.Name x p) (.Name y p2 :: es) [] pos) (tCallS (spM X.K C.XR k f) (CE C) (tCons (tVar i) t)) (mCall i f m) := by
  obtain ⟨_, fd, ps, F, hm, hkp, hb⟩ := cc.ex
  exact ⟨pe_callS F hr hg hm hkp hb hl (pa_cons (pv i hN hv hd hcd) ha.pe he) hdb he hpl, em_call cc.ln ha.ev⟩
theorem sm_tup {x1} (h : SAM X C es t m) : SM X C (.Tuple es x1 pos) (tTup t) (mTup m) := ⟨pe_tup h.pe, em_tup h.ev⟩
variable {tt tu : TT} {mt mu : BM} {bt : EB}
theorem sbm_tru (ha : SM X C a ta na) (he : ∀ whole, isTrue a X.env whole = (do let v ← whole; standAt a.pos; holding [v] (truthy v)) := by intro _; rfl) : SBM X C a (tTru X.K ta) (bmT na) := ⟨pt_truth ha.pe he, ebm_t ha.ev⟩
theorem sbm_not (ha : SBM X C a tt mt) : SBM X C (.UnaryOp .Not a pos) (tNot tt) (bmNot mt) := ⟨pt_not ha.pe, ebm_not ha.ev⟩
theorem se_meth {f : Fn} {pl : Sem Bool} (cc : MetF X.prog X.w X.K X.mg X.base C.XR cn mm j k f) (hr : Room j X.A) (hl : Lets X C) (ho : SE X C a ta ma) (ha : SA X C (e :: es) t ml) (hst : starEach (e :: es) X.env = (false, eval e X.env) :: starEach es X.env := by rfl) (hpl : (backTo pos (starEach es X.env)).any (·.1) = false := by rfl)
    (ht : eval (.Call (.Attribute a mm apos) (e :: es) [] pos) X.env = (do
      let ov ← eval a X.env
      standAt apos.atName
      let (f, first) ← holding [ov] (getMethod ov mm pl)
      callWith pos f first (backTo pos (starEach (e :: es) X.env)) (backToKw pos (keywordEach [] X.env))) := by rfl) :
    SE X C (.Call (.Attribute a mm apos) (e :: es) [] pos) (tMethS (He.ga X.K cn) mm (spF X.K C.XR (k + 1) f) (CE C) ta t) (eMeth cn mm f ma ml) := by
  obtain ⟨_, fd, ps, F, hm, hb⟩ := cc.ex
  exact ⟨pe_methS ho.pe cc.cl hm F hr hb hl ha.pe hst hpl ht, ev_meth cc.ln ho.ev ha.ev⟩
theorem se_meth0 {f : Fn} {pl : Sem Bool} (cc : MetF X.prog X.w X.K X.mg X.base C.XR cn mm j k f) (hr : Room j X.A) (hl : Lets X C) (ho : SE X C a ta ma)
    (ht : eval (.Call (.Attribute a mm apos) [] [] pos) X.env = (do
      let ov ← eval a X.env
      standAt apos.atName
      let (f, first) ← holding [ov] (getMethod ov mm pl)
      callWith pos f first (backTo pos (starEach [] X.env)) (backToKw pos (keywordEach [] X.env))) := by rfl) :
    SE X C (.Call (.Attribute a mm apos) [] [] pos) (tMethS (He.ga X.K cn) mm (spF X.K C.XR (k + 1) f) (CE C) ta tNil) (eMeth cn mm f ma aNil) := by
  obtain ⟨_, fd, ps, F, hm, hb⟩ := cc.ex
  exact ⟨pe_methS0 ho.pe cc.cl hm F hr hb hl ht, ev_meth cc.ln ho.ev ea_nil⟩
theorem str_make {f : MFn} (cc : MakM X.prog X.w X.K X.mg X.base C.XR cn j k f) (hr : Room (j + 1) X.A) (hl : Lets X C) (ha : SA X C (e :: es) t ml) (hg : Gl X cn := by rfl) (hdb : (cn == ("__debug__" : Str)) = false := by decide) (he : starEach (e :: es) X.env = (false, eval e X.env) :: starEach es X.env := by rfl) (hpl : (backTo pos (starEach es X.env)).any (·.1) = false := by rfl) :
    STr X C (.Call (.Name cn p) (e :: es) [] pos) (tMakeS (He.ga X.K cn) (spM X.K C.XR k f) (CE C) t) (tMakeT cn f ml) := by
  obtain ⟨_, fd, ps, F, hm, hb⟩ := cc.ex
  exact ⟨pe_makeS hm F hr hg cc.g hb hl ha.pe hdb he hpl, et_make cc.ln ha.ev⟩
theorem se_fld {f : Str} (hc : Cls X.K (He.ga X.K cn)) (hn : NoAttr X.K (He.ga X.K cn) f) (ha : SE X C a ta ma) (hb : attributeBase a f X.env (eval a X.env) = eval a X.env := by rfl) : SE X C (.Attribute a f pos) (tFld X.K ta f) (eFld cn f ma) := ⟨pe_fld ha.pe hb, ev_fld hc hn ha.ev⟩
theorem spl_fl {f : Str} {q : Pl} (hc : Cls X.K (He.ga X.K cn)) (hn : NoAttr X.K (He.ga X.K cn) f) (ha : SPl X C a tp q) (hb : attributeBase a f X.env (eval a X.env) = eval a X.env := by rfl) : SPl X C (.Attribute a f pos) (tFld X.K tp f) (.fl q cn f) := ⟨pe_fld ha.pe hb, epl_fl ha.ev hc hn⟩
theorem str_dictT : STr X C (.Dict [] [] pos) tDNewT (fun _ => .ok (.dT [])) := ⟨pe_dnewT, fun N H σ env e s Q h p hp =>
  h N H (Gr.refl e) (.ref p) (upd H p (.dT [])) [p] (fun a o q => by rw [upd_ne (ne_of_none q hp)]; exact q) (.dT upd_same .nil) (List.nodup_cons.mpr ⟨by simp, .nil⟩) (fun a ha => by rw [List.mem_singleton] at ha; subst ha; exact hp)⟩
theorem se_ixT (F : Fr X C) {st : Option (List Key → Bool)} (kt : NoKT X.K st) (ha : SE X C a ta ma) (hb : SE X C b tb mb) (hs : PlainIx b := by intro _ _; rfl) : SE X C (.Subscript a b pos) (tOp (rIxV X.K) ta tb) (e2 (vIxT st) ma mb) := ⟨pe_ix (ix_V F.u1) ha.pe hb.pe hs, ev_op (ops_ixT kt) (nx_ixT st) ha.ev hb.ev⟩
theorem c_niT (F : Fr X C) {st : Option (List Key → Bool)} (kt : NoKT X.K st) : CmpS X .NotIn (rNotInW X.K) (vNotInT st) := ⟨op_notInW (Nat.lt_of_le_of_lt (Nat.add_le_add_left (by decide : 1 ≤ 65) _) F.hu), ops_notInT kt, nx_notInT st⟩
theorem ss_dropM (ha : SM X C a ta na) (hs : swapsWith a none pos.line X.env = pure false := by rfl) : SSt X C (.Expr a pos) (tDrop ta) (sDropM na) := ⟨ps_expr ha.pe hs, es_dropM ha.ev⟩
theorem ss_retM (ha : SM X C a ta na) : SSt X C (.Return (some a) pos) (tRet ta) (sRetM na) := ⟨ps_ret ha.pe, es_retM ha.ev⟩
theorem ss_retW (ha : SM X C a ta na) : SSt X C (.Return (some a) pos) (tRet ta) (sRetW na) := ⟨ps_ret ha.pe, es_retW ha.ev⟩
theorem ss_ifM {as bs : List Stmt} (hc : SBM X C c tt mt) (ha : SSs X C as t2 n1) (hb : SSs X C bs u n2) : SSt X C (.If c as bs pos) (tIfS tt t2 u) (sIfM mt n1 n2) := ⟨ps_if hc.pe ha.ps hb.ps, es_ifM hc.ev ha.ev hb.ev⟩
theorem ss_putM {tg : Expr} {g : TG} {put : Put} {is : List Nat} (hp : STg X tg g put is) (hnx : ∀ x env, NX (put x env)) (ha : SM X C a ta na) (hs : swapsWithSole [tg] a pos.line X.env = pure false := by rfl) (hw : swappedStores [tg] a X.env = pure none := by rfl)
    (h1 : (assignEach [tg] X.env).map (·.2) = [assign tg X.env] := by rfl) : SSt X C (.Assign [tg] a pos) (tAsg ta g) (sPutM put na) := ⟨ps_asg ha.pe hp.pe hs hw h1, es_putM hp.ev hnx ha.ev⟩
theorem ss_appendM (i : Nat) {pa pos2 : Pos} (ha : SM X C a ta na) (hN : X.N[i]? = some x := by rfl) (hv : Vis X.env.scope x := by first | exact Or.inl rfl | exact Or.inr (Or.inl rfl) | exact Or.inr (Or.inr rfl)) (hd : (x == ("__debug__" : Str)) = false := by decide) (hcd : (x == ("__classdict__" : Str)) = false := by decide)
    (hbase : attributeBase (.Name x p) "append" X.env (eval (.Name x p) X.env) = eval (.Name x p) X.env := by rfl)
    (hfew : ((backTo pos (starEach [a] X.env)).all (fun x => !x.1) && (backToKw pos (keywordEach [] X.env)).all (fun x => x.1.isSome)
      && decide ([a].length + ([] : List Keyword).length + (if ([] : List Keyword).isEmpty then 0 else 1) < 30)) = true := by rfl)
    (hline : (pa.endLine == pos.line) = true := by rfl) (hs : starEach [a] X.env = (false, eval a X.env) :: starEach [] X.env := by rfl) (hplain : (backTo pos (starEach [] X.env)).any (·.1) = false := by rfl)
    (hsw : swapsWith (.Call (.Attribute (.Name x p) "append" pa) [a] [] pos) none pos2.line X.env = pure false := by rfl) : SSt X C (.Expr (.Call (.Attribute (.Name x p) "append" pa) [a] [] pos) pos2) (tDrop (tBM X.K "list" rAppend (tVar i) (tCons ta tNil))) (sAppendM i na) :=
  ⟨ps_expr (pe_bm PySem.F.plainAttrs_list PySem.F.slot_list_append PySem.F.type_list_append mt_append (pv i hN hv hd hcd) (pa_cons ha.pe pa_nil hs) hbase hfew hline hs hplain) hsw, es_appendM ha.ev⟩
section
variable {f : Str} {i : Nat} (hc : Cls X.K (He.ga X.K cn)) (hn : NoAttr X.K (He.ga X.K cn) f)
include hc hn
theorem ss_fldH (i : Nat) (ha : SE X C a ta ma) (hs : swapsWith a (some (.Attribute (.Name x p) f p2)) pos.line X.env = pure false := by rfl) (hN : X.N[i]? = some x := by rfl) (hv : Vis X.env.scope x := by first | exact Or.inl rfl | exact Or.inr (Or.inl rfl) | exact Or.inr (Or.inr rfl)) (hd : (x == ("__debug__" : Str)) = false := by decide)
    (hcd : (x == ("__classdict__" : Str)) = false := by decide) : SSt X C (.Assign [.Attribute (.Name x p) f p2] a pos) (sFld X.K (tVar i) ta f) (sFldH cn f i ma) := ⟨ps_fld (pv i hN hv hd hcd) ha.pe hs, es_fldH hc hn ha.ev⟩
theorem ss_fldT (i : Nat) {mt : ET} (ha : STr X C a ta mt) (hs : swapsWith a (some (.Attribute (.Name x p) f p2)) pos.line X.env = pure false := by rfl) (hN : X.N[i]? = some x := by rfl) (hv : Vis X.env.scope x := by first | exact Or.inl rfl | exact Or.inr (Or.inl rfl) | exact Or.inr (Or.inr rfl)) (hd : (x == ("__debug__" : Str)) = false := by decide)
    (hcd : (x == ("__classdict__" : Str)) = false := by decide) : SSt X C (.Assign [.Attribute (.Name x p) f p2] a pos) (sFld X.K (tVar i) ta f) (sFldT cn f i mt) := ⟨ps_fld (pv i hN hv hd hcd) ha.pe hs, es_fldT hc hn ha.ev⟩
end
theorem ss_atPutN (F : Fr X C) {st : Option (List Key → Bool)} {q : Pl} (kt : NoKT X.K st) (ho : SPl X C c tp q) (hb : SE X C b tb mb) (ha : SE X C a ta ma) (hs : swapsWith a (some (.Subscript c b p2)) pos.line X.env = pure false := by rfl) : SSt X C (.Assign [.Subscript c b p2] a pos) (sDPut tp tb ta) (sAtPutN st q mb ma) := ⟨ps_dput F.u1 ho.pe hb.pe ha.pe hs, es_atPutN kt ho.ev hb.ev ha.ev⟩
theorem ss_atPutM (F : Fr X C) {st : Option (List Key → Bool)} {q : Pl} (kt : NoKT X.K st) (ho : SPl X C c tp q) (hb : SE X C b tb mb) (ha : SM X C a ta na) (hs : swapsWith a (some (.Subscript c b p2)) pos.line X.env = pure false := by rfl) : SSt X C (.Assign [.Subscript c b p2] a pos) (sDPut tp tb ta) (sAtPutM st q mb na) := ⟨ps_dput F.u1 ho.pe hb.pe ha.pe hs, es_atPutM kt ho.ev hb.ev ha.ev⟩
end
end Vm
namespace Vm
open PySem L2 PyProof.Rows
variable [TabsOf]
abbrev IM := Env → RS (List Val)
def itH (it : EI) : IM := fun env => (it (hide env)).rs env
def loopCM (put : Put) (tt : BM) (el : EM) (own : List Nat) : List Val → Env → RS (List Val)
  | [], e => .ok [] e
  | x :: xs, e => match put x (wipeE e own) with
    | .ok e1 => (match tt e1 with
      | .ok b e2 => bif b then (match el e2 with
        | .ok y e3 => (match loopCM put tt el own xs e3 with
          | .ok r e4 => .ok (y :: r) e4
          | _ => .bad)
        | _ => .bad) else loopCM put tt el own xs e2
      | _ => .bad)
    | _ => .bad
def mComp (it : IM) (own : List Nat) (put : Put) (tt : BM) (el : EM) : EM := fun env => (it env).bind fun xs e0 => if xs.length ≤ 16777216 then (match loopCM put tt el own xs e0 with
  | .ok r e => .ok (.lst r) (wipeE e own)
  | _ => .bad) else .bad
def EvIM (K : PySem.W.Frag) (C : Cn) (wi : TI) (m : IM) : Prop := ∀ B M H σ env fs, SR K B M H σ env fs → ∀ R : It → Hp → Prop, PostM K C B σ (m env) (fun xs _ M' H' _ => ∀ J, WalkV K M' J xs → R J H') → wi σ H R
section
variable {put : Put} {tt : BM} {el : EM} {own : List Nat}
theorem loopCM_cons {x : Val} {xs r : List Val} {e ef : Env} (h : loopCM put tt el own (x :: xs) e = .ok r ef) :
    ∃ e1 b e2, put x (wipeE e own) = .ok e1 ∧ tt e1 = .ok b e2 ∧ ((b = true ∧ ∃ y e3 r', el e2 = .ok y e3 ∧ loopCM put tt el own xs e3 = .ok r' ef ∧ r = y :: r') ∨ (b = false ∧ loopCM put tt el own xs e2 = .ok r ef)) := by
  unfold loopCM at h
  cases h1 : put x (wipeE e own) with
  | bad => rw [h1] at h; cases h
  | exc q => rw [h1] at h; cases h
  | ok e1 =>
    rw [h1] at h
    simp only at h
    cases h2 : tt e1 with
    | bad => rw [h2] at h; cases h
    | exc q _ => rw [h2] at h; cases h
    | ok b e2 =>
      rw [h2] at h
      simp only at h
      refine ⟨e1, b, e2, rfl, h2, ?_⟩
      cases b with
      | false => exact .inr ⟨rfl, h⟩
      | true =>
        simp only [cond_true] at h
        cases h3 : el e2 with
        | bad => rw [h3] at h; cases h
        | exc q _ => rw [h3] at h; cases h
        | ok y e3 =>
          rw [h3] at h
          simp only at h
          cases h4 : loopCM put tt el own xs e3 with
          | bad => rw [h4] at h; cases h
          | exc q _ => rw [h4] at h; cases h
          | ok r' e4 =>
            rw [h4] at h
            cases h
            exact .inl ⟨rfl, y, e3, r', rfl, h4, rfl⟩
theorem loopCM_len : ∀ {xs r : List Val} {e ef : Env}, loopCM put tt el own xs e = .ok r ef → r.length ≤ xs.length
  | [], r, _, _, h => by cases h; exact Nat.le_refl _
  | x :: xs, r, e, ef, h => by
    obtain ⟨e1, b, e2, _, _, h1 | h1⟩ := loopCM_cons h
    · obtain ⟨_, y, e3, r', _, h2, rfl⟩ := h1
      have := loopCM_len h2
      simp only [List.length_cons]
      omega
    · have := loopCM_len h1.2
      simp only [List.length_cons]
      omega
end
section
variable {K : PySem.W.Frag} {C : Cn} {B : Bs} {M H : Hp} {σ : L2.St} {env : Env} {fs : List Addr}
theorem eim_h {wi : TI} {it : EI} (hi : EvI K C wi it) : EvIM K C wi (itH it) := fun B M H σ env fs S R h => by
  refine hi M H σ (hide env) S.g.nh S.sl.hid R ?_
  unfold itH at h
  cases hm : it (hide env) with
  | ok x => rw [hm] at h; exact fun M' H' g J w => h M' H' fs (S.behindH g) J w
  | exc q =>
    rw [hm] at h
    obtain ⟨w, h1, h2⟩ := h
    exact ⟨w, h1, fun cls d N' H' g hx => h2 cls d _ H' fs (S.behindH g) hx⟩
  | bad => rw [hm] at h; exact h
/-- the list that a comprehension fills stands beside all the slots -/
abbrev BD (B : Bs) (D : Addr) (acc : List V) (M1 : Hp) : Bs := { B with h := upd B.h D (.lst acc), l := M1 }
theorem SR.wipes (S : SR K B M H σ env fs) : ∀ (own : List Nat), ∃ fs', SR K B M H (L2.wipe σ own) (wipeE env own) fs'
  | [] => ⟨fs, S⟩
  | i :: own => by
    obtain ⟨fs', S'⟩ := SR.wipes S own
    show ∃ fs', SR K B M H ((L2.wipe σ own).set i none) ((wipeE env own).set i .un) fs'
    by_cases hi : i < (wipeE env own).length
    · exact S'.put hi (.un none)
    · rw [List.set_eq_of_length_le (by rw [S'.sl.len]; omega), List.set_eq_of_length_le (by omega)]
      exact ⟨fs', S'⟩
theorem SO.swap {me : V} : ∀ {σ σ' : L2.St} {env : Env} {fs : List Addr}, SO K me M H σ env fs → σ'.length = σ.length → (∀ i : Nat, env[i]? = some Slot.un ∨ σ'[i]? = σ[i]?) → SO K me M H σ' env fs
  | _, σ', _, _, .nil, hl, _ => by
    cases σ' with
    | nil => exact .nil
    | cons _ _ => cases hl
  | _, σ', _, _, .cons (s := s) (e := e) r t, hl, h => by
    cases σ' with
    | nil => cases hl
    | cons s' σ' =>
      have t' := SO.swap t (by simpa using hl) fun i => by simpa using h (i + 1)
      rcases h 0 with h0 | h0
      · simp at h0
        subst h0
        cases r
        exact .cons (.un s') t'
      · simp at h0
        subst h0
        exact .cons r t'
theorem wipe_len (σ : L2.St) : ∀ own : List Nat, (L2.wipe σ own).length = σ.length
  | [] => rfl
  | i :: own => by show ((L2.wipe σ own).set i none).length = _; rw [List.length_set, wipe_len σ own]
theorem wipe_at {σ : L2.St} {j : Nat} : ∀ {own : List Nat}, j ∉ own → (L2.wipe σ own)[j]? = σ[j]?
  | [], _ => rfl
  | i :: own, h => by
    rw [List.mem_cons, not_or] at h
    show ((L2.wipe σ own).set i none)[j]? = _
    rw [List.getElem?_set_ne (fun z => h.1 z.symm), wipe_at h.2]
theorem wipeE_un {env : Env} {j : Nat} (hj : j < env.length) : ∀ {own : List Nat}, j ∈ own → (wipeE env own)[j]? = some Slot.un
  | [], h => by cases h
  | i :: own, h => by
    show ((wipeE env own).set i .un)[j]? = _
    have hl : (wipeE env own).length = env.length := by
      clear h
      induction own with
      | nil => rfl
      | cons i own ih => show ((wipeE env own).set i .un).length = _; rw [List.length_set, ih]
    by_cases hij : i = j
    · subst hij
      rw [List.getElem?_set_self (by rw [hl]; exact hj)]
    · rw [List.getElem?_set_ne hij]
      rcases List.mem_cons.mp h with h | h
      · exact absurd h.symm hij
      · exact wipeE_un hj h
theorem wipeE_len (env : Env) : ∀ own : List Nat, (wipeE env own).length = env.length
  | [] => rfl
  | i :: own => by show ((wipeE env own).set i .un).length = _; rw [List.length_set, wipeE_len env own]
theorem SR.unwipe {own : List Nat} {e : Env} (S : SR K B M H (L2.wipe σ own) (wipeE e own) fs) : SR K B M H σ (wipeE e own) fs := by
  refine ⟨S.g, S.lo, S.fr, S.nd, S.sl.swap (wipe_len σ own).symm fun i => ?_⟩
  by_cases hi : i ∈ own
  · by_cases hl : i < e.length
    · exact .inl (wipeE_un hl hi)
    · right
      have h1 : e.length = σ.length := by have := S.sl.len; rw [wipe_len, wipeE_len] at this; exact this.symm
      rw [List.getElem?_eq_none (by omega), List.getElem?_eq_none (by rw [wipe_len]; omega)]
  · exact .inr (wipe_at hi).symm
variable {D : Addr} {acc : List V} {M1 H1 : Hp}
theorem SRD.at (S : SR K (BD B D acc M1) M H σ env fs) : H D = some (.lst acc) := S.g.hh.to D _ upd_same rfl
theorem SRD.low (S : SR K (BD B D acc M1) M H σ env fs) (hm : B.m D = none) : M D = none := by
  cases hq : M D with
  | none => rfl
  | some o =>
    rcases S.g.nw D (by rw [hq]; simp) with h | h
    · exact absurd hm h
    · have h : upd B.h D (.lst acc) D = none := h
      rw [upd_same] at h; cases h
theorem SRD.ne (S : SR K (BD B D acc M1) M H σ env fs) {a : Addr} (ha : a ∈ fs) : a ≠ D ∧ B.h a = none := by
  have h : upd B.h D (.lst acc) a = none := (S.fr a ha).2
  have hne : a ≠ D := fun z => by rw [z, upd_same] at h; cases h
  rw [upd_ne hne] at h
  exact ⟨hne, h⟩
theorem SRD.start (S : SR K B M1 H σ env fs) (hD : H D = none) : SR K (BD B D [] M1) M1 (upd H D (.lst [])) σ env fs := by
  have hne : ∀ a o, H a = some o → a ≠ D := fun a o q => ne_of_none q hD
  have hM : M1 D = none := by
    cases hq : M1 D with
    | none => rfl
    | some o => have := S.g.nh D o hq; rw [hD] at this; cases this
  refine ⟨⟨S.g.hh.upd2, S.g.nn, S.g.nh.newH hD, fun a q => ?_⟩, Same.refl _, fun a ha => ⟨(S.fr a ha).1, ?_⟩, S.nd, S.sl.mono (Same.refl _) fun a ha => ?_⟩
  · rcases S.g.nw a q with h | h
    · exact .inl h
    · refine .inr ?_
      show upd B.h D (.lst []) a = none
      rw [upd_ne fun z => q (by rw [z]; exact hM)]; exact h
  · show upd B.h D (.lst []) a = none
    rw [upd_ne fun z => S.sl.known a ha (by rw [z]; exact hD)]
    exact (S.fr a ha).2
  · exact upd_ne fun z => S.sl.known a ha (by rw [z]; exact hD)
theorem SRD.push (S : SR K (BD B D acc M1) M H σ env fs) (hm : B.m D = none) {acc' : List V} : SR K (BD B D acc' M1) M (upd H D (.lst acc')) σ env fs := by
  have hM := SRD.low S hm
  refine ⟨⟨S.g.hh.upd3, S.g.nn, S.g.nh.wr hM (SRD.at S), fun a q => ?_⟩, S.lo, fun a ha => ⟨(S.fr a ha).1, ?_⟩, S.nd, S.sl.mono (Same.refl _) fun a ha => upd_ne (SRD.ne S ha).1⟩
  · rcases S.g.nw a q with h | h
    · exact .inl h
    · refine .inr ?_
      have hne : a ≠ D := fun z => q (by rw [z]; exact hM)
      have h : upd B.h D (.lst acc) a = none := h
      rw [upd_ne hne] at h
      show upd B.h D (.lst acc') a = none
      rw [upd_ne hne]; exact h
  · show upd B.h D (.lst acc') a = none
    rw [upd_ne (SRD.ne S ha).1]; exact (SRD.ne S ha).2
theorem SRD.done (S : SR K (BD B D acc M1) M H σ env fs) (hm : B.m D = none) (hh : B.h D = none) (hl : Sub B.l M1) : SR K B (upd M D (.lst acc)) H σ env fs := by
  have hM := SRD.low S hm
  have sub : Sub M (upd M D (.lst acc)) := fun a o q => by rw [upd_ne (ne_of_none q hM)]; exact q
  refine ⟨⟨S.g.hh.unupd hh, S.g.nn.trans sub, S.g.nh.add (SRD.at S), fun a q => ?_⟩, hl.trans (S.lo.trans sub), fun a ha => ⟨?_, (SRD.ne S ha).2⟩, S.nd, S.sl.mono sub fun _ _ => rfl⟩
  · by_cases ha : a = D
    · exact .inr (ha ▸ hh)
    · rw [upd_ne ha] at q
      rcases S.g.nw a q with h | h
      · exact .inl h
      · have h : upd B.h D (.lst acc) a = none := h
        rw [upd_ne ha] at h; exact .inr h
  · rw [upd_ne (SRD.ne S ha).1]; exact (S.fr a ha).1
/-- a thing more that stays: what a walk's step made -/
theorem Gr.joinM {N0 Nx Hx : Hp} (e0 : Sub N0 M) (sm : Inn M H) (gx : Gr N0 H Nx Hx) : ∃ Nu, Gr M H Nu Hx ∧ Sub Nx Nu := by
  refine ⟨_, gx.join sm e0, fun a o q => ?_⟩
  show (if Nx a = none then M a else Nx a) = some o
  rw [if_neg (by rw [q]; simp)]; exact q
end
section
variable {K : PySem.W.Frag} {C : Cn}
theorem em_comp {wi : TI} {it : IM} {g : TG} {put : Put} {is own : List Nat} {tt : TT} {te : TE} {mt : BM} {me : EM} (hi : EvIM K C wi it) (hp : EvP K g put is) (hsub : ∀ i ∈ is, i ∈ own)
    (ht : EvBM K (C0 C) tt mt) (he : EvM K (C0 C) te me) : EvM K C (tLc wi g tt te own) (mComp it own put mt me) := fun B M H σ env fs S Q h => by
  refine hi { B with l := M } M H σ env fs (S.at_low (Same.refl _)) _ (PostM.imp (PostM.low S.lo (PostM.bind h)) ?_)
  rintro xs e0 M1 H1 fs1 _ ⟨S1, l1, h1⟩ J hJ
  intro D hD
  split at h1
  case isFalse => exact h1.elim
  rename_i hsz
  obtain ⟨G, Y, w, hG, hY⟩ := hJ
  cases hc : loopCM put mt me own xs e0 with
  | bad => rw [hc] at h1; exact h1.elim
  | exc q _ => rw [hc] at h1; exact h1.elim
  | ok r ef =>
    rw [hc] at h1
    have fin : ∀ M' H' fs', SR K B M' H' σ (wipeE ef own) fs' → ∀ v, RV K M' v (.lst r) → Q v H' := h1
    have hrl := loopCM_len hc
    have hBm : B.m D = none := by
      cases hq : B.m D with
      | none => rfl
      | some o => have := S1.g.nh D o (S1.g.nn D o hq); rw [hD] at this; cases this
    have hBh : B.h D = none := S1.g.hh.free hD
    obtain ⟨fs2, S2⟩ := SR.wipes (SRD.start S1 hD) own
    refine walk_W w (fun i H' => ∃ M' e' fs' acc ys rest, SR K (BD B D acc M1) M' H' (L2.wipe σ own) (wipeE e' own) fs' ∧ RVs K M' acc ys ∧ loopCM put mt me own (xs.drop i) e' = .ok rest ef ∧ ys ++ rest = r)
      ⟨M1, e0, fs2, [], [], r, S2, .nil, by rw [List.drop_zero]; exact hc, rfl⟩ (fun i H' _ ⟨M', e', fs', acc, ys, rest, S', _, _, _⟩ => hG H' (S'.g.nh.low S'.lo)) ?_ ?_
    · rintro i x Hi Hx hi ⟨M', e', fs', acc, ys, rest, S', rys, hrest, hr⟩ y
      obtain ⟨Nx, xv, gx, hxi, rx⟩ := hY i _ x Hx hi (S'.g.nh.low S'.lo) y
      obtain ⟨Nu, gu, su⟩ := Gr.joinM S'.lo S'.g.nh gx
      have S3 := S'.behindH gu
      rw [List.drop_eq_getElem_cons hi] at hrest
      have hxe : xs[i] = xv := by rw [List.getElem?_eq_getElem hi] at hxi; exact Option.some.inj hxi
      rw [hxe] at hrest
      obtain ⟨e1, b, e2, hput, hb, hways⟩ := loopCM_cons hrest
      refine hp Nu Hx (L2.wipe σ own) (wipeE e' own) x xv e1 S3.g.nh (rx.mono su) hput _ fun l hl he1 => ?_
      refine ⟨by rw [wipe_sets (fun t ht => hsub _ (hl t ht).1), wipe_wipe fun v hv => hv], ?_⟩
      obtain ⟨fs4, S4⟩ := S3.sets (l := l) fun t ht => (hl t ht).2
      rw [← he1] at S4
      have hwp : L2.wipe (setsS (L2.wipe σ own) l) own = L2.wipe σ own := by rw [wipe_sets (fun t ht => hsub _ (hl t ht).1), wipe_wipe fun v hv => hv]
      refine ht _ Nu Hx _ e1 fs4 (S4.at_low (Same.refl _)) _ ?_
      rw [hb]
      intro M5 H5 fs5 S5
      have l5 : Sub Nu M5 := S5.lo
      have S5 := S5.of_low (B := BD B D acc M1) S3.lo
      rcases hways with ⟨rfl, yv, e3, r', hel, hr', hrr⟩ | ⟨rfl, hr'⟩
      · show te _ H5 _
        refine he _ M5 H5 _ e2 fs5 (S5.at_low (Same.refl _)) _ ?_
        rw [hel]
        intro M6 H6 fs6 S6 v rv
        have l6 : Sub M5 M6 := S6.lo
        have S6 := S6.of_low (B := BD B D acc M1) S5.lo
        have hlen : acc.length < 16777216 := by
          have h2 := rys.length
          have h3 : r.length = ys.length + rest.length := by rw [← hr, List.length_append]
          have h4 : rest.length = r'.length + 1 := by rw [hrr]; rfl
          omega
        have S7 := SRD.push S6 hBm (acc' := acc ++ [v])
        obtain ⟨fs8, S8⟩ := SR.wipes S7 own
        rw [hwp] at S8
        refine ⟨acc, SRD.at S6, Nat.lt_of_lt_of_le hlen (by rw [line_eq]; exact Nat.le_refl _), M6, e3, fs8, acc ++ [v], ys ++ [yv], r', S8, ?_, hr', by rw [← hr, hrr, List.append_assoc]; rfl⟩
        exact ((rys.mono gu.nn).mono l5 |>.mono l6).append (.cons rv .nil)
      · obtain ⟨fs8, S8⟩ := SR.wipes S5 own
        rw [hwp] at S8
        exact ⟨M5, e2, fs8, acc, ys, rest, S8, (rys.mono gu.nn).mono l5, hr', hr⟩
    · rintro H' ⟨M', e', fs', acc, ys, rest, S', rys, hrest, hr⟩
      rw [List.drop_length] at hrest
      have he : e' = ef := by cases hrest; rfl
      have hy : ys = r := by cases hrest; rw [← hr, List.append_nil]
      subst he
      subst hy
      have S9 := SRD.done S'.unwipe hBm hBh (S.lo.trans l1)
      refine fin _ _ _ S9 _ (.lst (SqL.of upd_same) (rys.mono fun a o q => ?_))
      rw [upd_ne (ne_of_none q (SRD.low S' hBm))]
      exact q
end
/-- xs[e], xs a slot's own list: the item lies in what stays -/
def mIxO (i : Nat) (b : EM) : EM := fun env => match env[i]? with
  | some (.oL _) => (b env).bind fun y e => (match e[i]?, y with
    | some (.oL xs), .int k => (Res.ofOpt (atI xs k)).rs e
    | _, _ => .bad)
  | _ => .bad
section
variable {K : PySem.W.Frag} {C : Cn} {tb : TE} {mb : EM}
theorem em_ixO {i : Nat} (hb : EvM K C tb mb) : EvM K C (tOp (rIxV K) (tVar i) tb) (mIxO i mb) := fun B M H σ env fs S Q h => by
  unfold mIxO at h
  split at h
  case h_2 => exact h.elim
  rename_i xs0 h0
  obtain ⟨a0, vs0, hs0, _⟩ := S.write h0
  refine ⟨.ref a0, hs0, ?_⟩
  refine hb.go S (PostM.imp (PostM.bind h) fun y e M1 H1 fs1 _ h1 S1 l1 v rv => ?_)
  split at h1
  case h_2 => exact h1.elim
  rename_i xs k he
  obtain ⟨a, vs, hs, ha, r, _⟩ := S1.write he
  rw [hs0] at hs
  cases hs
  cases rv
  obtain ⟨z, hz, h2⟩ := PostM.res (by cases atI xs k <;> first | exact nx_ok | exact nx_bad) h1
  cases hat : atI xs k with
  | none => rw [hat] at hz; cases hz
  | some z' =>
    rw [hat] at hz
    cases hz
    unfold Vm.atI at hat
    cases hj : ixNat xs.length k with
    | none => rw [hj] at hat; cases hat
    | some j =>
      rw [hj] at hat
      obtain ⟨u, q1, q2⟩ := r.get (show xs[j]? = some z from hat)
      refine .inl (.inl ⟨_, _, k, u, rfl, rfl, SqL.of ha, ?_, h2 M1 H1 fs1 S1 u q2⟩)
      unfold L2.atI
      rw [r.length, show L2.ixN _ k = some j from hj]
      exact q1
end
structure SIM (X : Cx) (C : Cn) (tg e : Expr) (wi : TI) (m : IM) : Prop where
  pi : PI X tg e wi
  ev : EvIM X.K C wi m
structure STM (X : Cx) (C : Cn) (es : List Expr) (te : TT) (m : BM) : Prop where
  pe : PTs X es te
  ev : EvBM X.K C te m
/-- a comprehension that may be assigned to a plain local name -/
structure SMc (X : Cx) (C : Cn) (e : Expr) (te : TE) (m : EM) : Prop where
  sm : SM X C e te m
  as : ∀ (i : Nat) (y : Str) (py spos : Pos), X.N.Nodup → X.N[i]? = some y → X.env.scope.names.lookup y = some .local → swapsWith e (some (.Name y py)) spos.line X.env = pure true → PS X (.Assign [.Name y py] e spos) (tAsg te (gName i))
section
variable {X : Cx} {C : Cn} {a b c : Expr} {ta tb tc : TE} {na nb : EM} {pos p p2 : Pos} {es : List Expr} {x : Str}
theorem sim_h {tg : Expr} {wi : TI} {it : EI} (h : SI X C tg a wi it) : SIM X C tg a wi (itH it) := ⟨h.pi, eim_h h.ev⟩
theorem stm_nil : STM X C [] tYes (bmP bYes) := ⟨st_nil.pe (C := C), ebm_p (st_nil (X := X) (C := C)).ev⟩
theorem smc_comp {tt : TT} {mt : BM} {elt tg iter : Expr} {ifs : List Expr} {scope : Scope} {own : List (Str × Nat)} {wi : TI} {it : IM} {g : TG} {put : Put} {is : List Nat} {te : TE} {me : EM} (F : Fr X C) (hi : SIM X C tg iter wi it) (hp : inBlk X scope fun Y => STg Y tg g put is) (ht : inBlk X scope fun Y => STM Y (C0 C) ifs tt mt)
    (he : inBlk X scope fun Y => SM Y (C0 C) elt te me) (hsub : ∀ i ∈ is, i ∈ own.map (·.2) := by decide) (hN : X.N.Nodup := by assumption) (ok : BlkOk X.N X.env.scope scope own := by exact blkOk_by (by rfl)) (hs : ∀ x, foldedSetIterable iter X.env x = pure x := by intro _; rfl) :
    SMc X C (.ListComp elt [⟨tg, iter, ifs, 0⟩] scope pos) (tLc wi g tt te (own.map (·.2))) (mComp it (own.map (·.2)) put mt me) :=
  ⟨⟨pe_lc F.ca hN hi.pi ok (fun s H Cc cl fp => (hp s H Cc cl fp).pe) (fun s H Cc cl fp => (ht s H Cc cl fp).pe) (fun s H Cc cl fp => (he s H Cc cl fp).pe) hs,
   em_comp hi.ev (hp X.s_0 X.H_0 0 [] []).ev hsub (ht X.s_0 X.H_0 0 [] []).ev (he X.s_0 X.H_0 0 [] []).ev⟩,
   fun i y py spos hN' hy hyl hsw => ps_setLc F.ca hN' hy hyl hsw hi.pi ok (fun s H Cc cl fp => (hp s H Cc cl fp).pe) (fun s H Cc cl fp => (ht s H Cc cl fp).pe) (fun s H Cc cl fp => (he s H Cc cl fp).pe) hs⟩
theorem sm_lc (h : SMc X C a ta na) : SM X C a ta na := h.sm
theorem sm_ixO (i : Nat) (F : Fr X C) (hb : SM X C b tb nb) (hN : X.N[i]? = some x := by rfl) (hv : Vis X.env.scope x := by first | exact Or.inl rfl | exact Or.inr (Or.inl rfl) | exact Or.inr (Or.inr rfl)) (hd : (x == ("__debug__" : Str)) = false := by decide)
    (hcd : (x == ("__classdict__" : Str)) = false := by decide) (hs : PlainIx b := by intro _ _; rfl) : SM X C (.Subscript (.Name x p) b pos) (tOp (rIxV X.K) (tVar i) tb) (mIxO i nb) := ⟨pe_ix (ix_V F.u1) (pv i hN hv hd hcd) hb.pe hs, em_ixO hb.ev⟩
end
end Vm
namespace Vm
open PySem L2 PyProof.Rows
variable [TabsOf]
inductive DU where
  | ret (t : Tr) (xs : List Val)
  | exc (q : Exn)
  | bad
abbrev FnU := List Val → DU
def retU (i : Nat) (m : EL) (env : Env) : DU := match env[i]? with
  | some (.oT t) => (match m (hide env) with
    | .ok ys => if ys.length + 1 ≤ 16777216 then .ret t ys else .bad
    | _ => .bad)
  | _ => .bad
def defnU (k n : Nat) (m : ST) (i : Nat) (r : EL) : FnU := fun xs => if xs.length = k then (match m (startE n xs) with
  | .next e => retU i r e
  | .exc q _ => .exc q
  | _ => .bad) else .bad
/-- x, y, .. = f(..), the first one a tree -/
def sPutU (i : Nat) (js : List Nat) (f : FnU) (m : EL) : ST := fun env => (m (hide env)).flow env fun xs => match f xs with
  | .ret t ys => if i < env.length then (match putAll js ys (env.set i (.oT t)) with
    | .ok e => .next e
    | _ => .bad) else .bad
  | .exc q => .exc q env
  | .bad => .bad
def EndU (K : PySem.W.Frag) (XR : XRel) (N H : Hp) (Q : VK) (E : XK) (x : DU) : Prop := match x with
  | .ret t ys => ∀ N' H', Gr N H N' H' → ∀ a v vs H'' fv, Sub H' H'' → RT K N' H'' v t fv → fv.Nodup → (∀ a ∈ fv, H' a = none) → RVs K N' vs ys → SqP K H'' a (v :: vs) → Q (.ref a) H''
  | .exc q => ∀ cls e N' H', Gr N H N' H' → XR H' cls e q → E cls e H'
  | .bad => False
def spFU (K : PySem.W.Frag) (XR : XRel) (k : Nat) (f : FnU) : Sp := fun vs H Q E => ∃ N xs, Inn N H ∧ RVs K N vs xs ∧ xs.length = k ∧ EndU K XR N H Q E (f xs)
structure CalU (P : Program) (w : World) (K : PySem.W.Frag) (mg : Str → Option Value) (base : Heap) (XR : XRel) (x : Str) (j k : Nat) (f : FnU) : Prop where
  ex : ∃ a fd ps, FnOk P w K mg base (L2.CX P w) j a fd ps (spFU K XR k f) ∧ mg x = some (.ref a) ∧ PySem.W.keepIn K (.ref a) = true ∧ Binds K fd ps []
  ln : ∀ xs, f xs ≠ .bad → xs.length = k
section
variable {K : PySem.W.Frag} {C : Cn}
def PostDU (K : PySem.W.Frag) (B : Bs) (D : Ends) (x : DU) : Prop := match x with
  | .ret t ys => ∀ N H a v vs H'' f, Gr B.m B.h N H → Sub H H'' → RT K N H'' v t f → f.Nodup → (∀ a ∈ f, H a = none) → RVs K N vs ys → SqP K H'' a (v :: vs) → D.rt (.ref a) H''
  | _ => False
def PostU (K : PySem.W.Frag) (C : Cn) (B : Bs) (D : Ends) (i : Nat) (r : EL) (fl : Flow) : Prop := match fl with
  | .next e => PostDU K B D (retU i r e)
  | .exc q e => ∃ w, C.W = some w ∧ ∀ cls x M H σ fs, SR K B M H σ e fs → C.XR H cls x q → w cls x σ H
  | _ => False
theorem retU_ret {i : Nat} {m : EL} {env : Env} {y : DU} (h : retU i m env = y) (hy : ∀ q, y ≠ .exc q) (hb : y ≠ .bad) : ∃ t ys, env[i]? = some (.oT t) ∧ m (hide env) = .ok ys ∧ ys.length + 1 ≤ 16777216 ∧ y = .ret t ys := by
  unfold retU at h
  split at h
  · rename_i t ht
    split at h
    · rename_i ys hm
      split at h
      · rename_i hl; exact ⟨t, ys, ht, hm, hl, h.symm⟩
      · exact absurd h.symm hb
    · exact absurd h.symm hb
  · exact absurd h.symm hb
def EvSU (K : PySem.W.Frag) (C : Cn) (t : TS) (m : ST) (i : Nat) (r : EL) : Prop := ∀ B M H σ env fs, SR K B M H σ env fs → ∀ D, PostU K C B D i r (m env) → t D σ H
theorem esu_ret {i : Nat} {t : TA} {m : EL} (ha : EvA K C t m) : EvSU K C (tRet (tTup (tCons (tVar i) t))) sNext i m := fun B M H σ env fs S D h => by
  have h : PostDU K B D (retU i m env) := h
  obtain ⟨t0, ys, hs, hm, hl, hr⟩ := retU_ret (i := i) (m := m) (env := env) rfl (fun q z => by rw [z] at h; exact h) (fun z => by rw [z] at h; exact h)
  rw [hr] at h
  obtain ⟨v0, v', f', h1, h2, h3, h4, h5, _⟩ := S.foc (b := false) (p := []) hs rfl
  cases h2
  refine ⟨v0, h1, ?_⟩
  refine ha M H σ (hide env) S.g.nh S.sl.hid _ ?_
  rw [hm]
  intro M' H' g vs rvs
  have S' := S.behindH g
  refine ⟨by rw [line_eq]; show vs.length + 1 ≤ _; rw [rvs.length]; exact hl, fun p hp => ?_⟩
  have kn : ∀ a ∈ f', ∃ o, H a = some o ∧ H' a = some o := fun a ha => by
    obtain ⟨o, ho, hw⟩ := RT.kinds t0 h3 a ha
    exact ⟨o, ho, g.hh.to a o ho (own_ntb hw)⟩
  have pf : ∀ a ∈ f', a ≠ p := fun a ha z => by
    obtain ⟨o, _, ho⟩ := kn a ha
    rw [z, hp] at ho; cases ho
  have h : ∀ N H a v vs H'' f, Gr B.m B.h N H → Sub H H'' → RT K N H'' v t0 f → f.Nodup → (∀ a ∈ f, H a = none) → RVs K N vs ys → SqP K H'' a (v :: vs) → D.rt (.ref a) H'' := h
  refine h M' (fun a => if a ∈ f' then none else H' a) p v0 vs (upd H' p (.tup (v0 :: vs))) f' ⟨S'.g.hh.hidF fun a ha => (S.fr a (h5 a ha)).2, S'.g.nn, S'.g.nh.hidF (fun a ha => (S'.fr a (h5 a ha)).1) (fun a ha => by
    obtain ⟨o, ho, hw⟩ := RT.kinds t0 h3 a ha
    exact ⟨o, g.hh.to a o ho (own_ntb hw), own_wr hw⟩), S'.g.nw⟩ (fun a o q => ?_) (RT.mono g.nn t0 (fun a ha => ?_) h3) h4 (fun a ha => if_pos ha) rvs (SqP.of upd_same)
  · have q : (if a ∈ f' then none else H' a) = some o := q
    split at q
    · cases q
    · rw [upd_ne (ne_of_none q hp)]; exact q
  · obtain ⟨o, ho, ho'⟩ := kn a ha
    rw [upd_ne (pf a ha), ho, ho']
theorem esu_cons {t u : TS} {m n : ST} {i : Nat} {r : EL} (h1 : EvS K C t m) (h2 : EvSU K C u n i r) : EvSU K C (tSeq t u) (sSeq m n) i r := fun B M H σ env fs S D h => by
  refine h1 B M H σ env fs S { D with nx := u D } ?_
  have h : PostU K C B D i r ((m env).bind n) := h
  cases hm : m env with
  | next e =>
    rw [hm] at h
    intro M' H' σ' fs' S'
    exact h2 B M' H' σ' e fs' S' D h
  | brk e => rw [hm] at h; exact h.elim
  | cont e => rw [hm] at h; exact h.elim
  | ret e => rw [hm] at h; exact h.elim
  | exc q e => rw [hm] at h; exact h
  | bad => rw [hm] at h; exact h.elim
theorem esu_freeze {t : TS} {m : ST} {j i : Nat} {r : EL} (h1 : EvSU K C t m i r) : EvSU K C t (sSeq (sFreeze j) m) i r := fun B M H σ env fs S D h => by
  have h : PostU K C B D i r ((sFreeze j env).bind m) := h
  unfold sFreeze at h
  split at h
  · rename_i xs hx
    obtain ⟨M', fs', S'⟩ := S.freeze hx
    exact h1 B M' H σ _ fs' S' D h
  · exact h.elim
theorem es_putU {i k : Nat} {js : List Nat} {g : TGs} {f : FnU} {t : TA} {m : EL} (hk : ∀ xs, f xs ≠ .bad → xs.length = k) (hp : EvPs K g js) (ha : EvA K C t m) : EvS K C (tAsg (tCallS (spFU K C.XR k f) (CE C) t) (gTup K (js.length + 1) (gCons (gName i) g))) (sPutU i js f m) := fun B M H σ env fs S D h => by
  refine ha M H σ (hide env) S.g.nh S.sl.hid _ (post_hid S h fun xs M1 H1 _ g1 S1 h1 vs rvs => ?_)
  refine ⟨M1, xs, S1.g.nh, rvs, hk xs fun z => (by rw [z] at h1; exact h1), ?_⟩
  cases hf : f xs with
  | bad => rw [hf] at h1; exact h1
  | exc q =>
    rw [hf] at h1
    obtain ⟨w, hw, h2⟩ := h1
    intro cls d N' H' g' hx
    show CE C σ cls d H'
    unfold CE
    rw [hw]
    exact h2 cls d _ H' σ fs (S1.behindH g') hx
  | ret t0 ys =>
    rw [hf] at h1
    intro N' H' g' a v ws H'' fv e2 rt nd fr rws hs
    obtain ⟨hi, h1⟩ := PostF.ite h1
    have S2 := S1.behindH g'
    obtain ⟨fs', S3⟩ := S2.putT hi (.of e2) (S2.g.nh.tt.ext e2) rt nd fr
    cases hq : putAll js ys (env.set i (.oT t0)) with
    | bad => rw [hq] at h1; exact h1.elim
    | exc q => rw [hq] at h1; exact h1.elim
    | ok e =>
      rw [hq] at h1
      refine ⟨a, v :: ws, rfl, st_mono (Same.refl _) hs, by show ws.length + 1 = _; rw [rws.length, putAll_len hq], v, ws, rfl, ?_⟩
      refine hp N' H'' (σ.set i (some v)) _ ws ys e S3.g.nh rws hq _ fun l hl he => ?_
      obtain ⟨fs4, S4⟩ := S3.sets (l := l) fun t ht => (hl t ht).2
      rw [← he] at S4
      exact h1 N' H'' _ fs4 S4
end
structure SSsU (X : Cx) (C : Cn) (st : List Stmt) (t : TS) (m : ST) (i : Nat) (r : EL) : Prop where
  ps : PSs X st t
  ev : EvSU X.K C t m i r
section
variable {X : Cx} {C : Cn} {a b : Expr} {ta : TE} {ma : EX} {pos p : Pos} {es : List Expr} {rest : List Stmt} {st : Stmt} {t u : TS} {n m : ST} {d i : Nat} {r : EL}
theorem sU_ret (i : Nat) {x : Str} {ts : TA} {ml : EL} {x1 : Nat} {pp : Pos} (ha : SA X C es ts ml) (hN : X.N[i]? = some x := by rfl) (hv : Vis X.env.scope x := by first | exact Or.inl rfl | exact Or.inr (Or.inl rfl) | exact Or.inr (Or.inr rfl)) (hd : (x == ("__debug__" : Str)) = false := by decide)
    (hcd : (x == ("__classdict__" : Str)) = false := by decide) (hs : starEach (.Name x p :: es) X.env = (false, eval (.Name x p) X.env) :: starEach es X.env := by rfl) : SSsU X C [.Return (some (.Tuple (.Name x p :: es) x1 pp)) pos] (tRet (tTup (tCons (tVar i) ts))) sNext i ml := ⟨pss_one (ps_ret (pe_tup (pa_cons (pv i hN hv hd hcd) ha.pe hs))), esu_ret ha.ev⟩
theorem sU_cons (h : SSt X C st t m) (q : SSsU X C rest u n i r) : SSsU X C (st :: rest) (tSeq t u) (sSeq m n) i r := ⟨pss_cons h.ps q.ps, esu_cons h.ev q.ev⟩
theorem sU_freeze (j : Nat) (q : SSsU X C rest u n i r) : SSsU X C rest u (sSeq (sFreeze j) n) i r := ⟨q.ps, esu_freeze q.ev⟩
end
def BodyU (P : Program) (w : World) (K : PySem.W.Frag) (mg : Str → Option Value) (base : Heap) (XR : XRel) (j : Nat) (N : List Str) (qual : Str) (scope : Scope) (body : List Stmt) (m : ST) (i : Nat) (r : EL) : Prop :=
  ∀ (f : Addr) (cd : Value) (A : Around) (outer : List PySem.Env) (s : Shared) (H : Hp) (E : XK) (W : WX), let X := FX P w K mg base N qual scope f cd A outer s H E
    Takes X W → Fr X ⟨XR, some W⟩ → Room j X.A → ∃ t, SSsU X ⟨XR, some W⟩ body t m i r
theorem defnU_ne {k n : Nat} {m : ST} {i : Nat} {r : EL} {xs : List Val} (h : defnU k n m i r xs ≠ .bad) : xs.length = k := by
  unfold defnU at h
  split at h
  · assumption
  · exact absurd rfl h
section
variable {P : Program} {w : World} {K : PySem.W.Frag} {mg : Str → Option Value} {base : Heap} {XR : XRel}
theorem fnU_ok {x qual : Str} {params : Arguments} {body : List Stmt} {scope : Scope} {dvs : List V} {kws : List (Str × V)} {f : Addr} {fd : FuncData} {N ps : List Str} {j k n : Nat} {m : ST} {i : Nat} {r : EL} (F : FunD K x qual params body scope dvs kws f fd) (S : FnScope N ps scope)
    (hk : ps.length = k) (hn : N.length = n) (hb : BodyU P w K mg base XR j N qual scope body m i r) : FnOk P w K mg base (L2.CX P w) (j + 1) f fd ps (spFU K XR k (defnU k n m i r)) := by
  refine F.ok S (fun vs H Q E h => ?_) (fun cdv A outer s H vs Q E hr h => ?_)
  · obtain ⟨N0, xs, _, r, hl, _⟩ := h
    rw [r.length, hl, hk]
  · have tk : Takes (FX P w K mg base N qual scope f cdv A outer s H E) (fun cls d _ H => E cls d H) := takes_of rfl rfl rfl rfl
    obtain ⟨t, h1, h2⟩ := hb f cdv A outer s H E _ tk ⟨units65 hr, rfl, Lets.of tk, passes_of rfl⟩ hr
    refine ⟨t, h1, ?_⟩
    obtain ⟨N0, xs, e, rr, hl, q⟩ := h
    have hst : SO K .non N0 H (L2.start N vs) (startE n xs) [] := by
      unfold L2.start startE
      rw [hn, rr.length]
      exact so_start rr
    refine h2 ⟨N0, H, fun _ => none, .non⟩ N0 H _ _ [] ⟨Gr.refl e, (fun a o q => nomatch q), (fun a ha => by cases ha), List.nodup_nil, hst⟩ _ ?_
    unfold defnU at q
    rw [if_pos hl] at q
    cases hm : m (startE n xs) with
    | next e =>
      rw [hm] at q
      have q : EndU K XR N0 H Q E (retU i r e) := q
      show PostDU K _ _ (retU i r e)
      cases hr : retU i r e with
      | ret t ys => rw [hr] at q; exact fun N' H' a v vs H'' fv g e2 rt nd fr rv sq => q N' H' g a v vs H'' fv e2 rt nd fr rv sq
      | exc z =>
        exfalso
        unfold retU at hr
        split at hr
        · split at hr
          · split at hr <;> cases hr
          · cases hr
        · cases hr
      | bad => rw [hr] at q; exact q
    | ret x => rw [hm] at q; exact q.elim
    | exc z e =>
      rw [hm] at q
      exact ⟨_, rfl, fun cls d M H' σ fs S' hx => q cls d M H' S'.g hx⟩
    | brk e => rw [hm] at q; exact q.elim
    | cont e => rw [hm] at q; exact q.elim
    | bad => rw [hm] at q; exact q.elim
theorem calU_of {x qual : Str} {params : Arguments} {body : List Stmt} {scope : Scope} {f : Addr} {fd : FuncData} {N ps : List Str} {j k n : Nat} {m : ST} {i : Nat} {r : EL} (F : FunD K x qual params body scope [] [] f fd) (gm : mg x = some (.ref f)) (S : FnScope N ps scope)
    (hb : ∀ (kV doc pm : Value) (an : Option Addr) (cdv ct : Value) (us : List Value), us.length = ps.length → bindArgs (PySem.W.fnOf x qual params body scope .none kV doc pm an cdv ct) ⟨us, []⟩ = pure (ps.zip us))
    (hk : ps.length = k) (hn : N.length = n) (h : BodyU P w K mg base XR j N qual scope body m i r) : CalU P w K mg base XR x (j + 1) k (defnU k n m i r) :=
  ⟨⟨f, fd, ps, fnU_ok F S hk hn h, gm, F.kp, F.bindsN hb⟩, fun _ => defnU_ne⟩
end
section
variable {X : Cx} {C : Cn} {e b : Expr} {es tgs : List Expr} {pos p pp : Pos} {x y : Str}
theorem ss_putU (i : Nat) {j k : Nat} {js : List Nat} {f : FnU} {g : TGs} {ts : TA} {ml : EL} {x1 : Nat} (F : Fr X C) (c : CalU X.prog X.w X.K X.mg X.base C.XR x j k f) (hr : Room j X.A) (hl : Lets X C) (ha : SA X C (b :: es) ts ml) (hg' : STs X tgs g js) (hN : X.N.Nodup := by assumption) (hi : X.N[i]? = some y := by rfl)
    (hx : Loc X.env.scope y := by first | exact .inl rfl | exact .inr rfl) (hf : X.fn y = true ∨ X.env.scope.names.lookup y = some .local := by first | exact .inr rfl | exact .inl rfl)
    (hg : Gl X x := by rfl) (hdb : (x == ("__debug__" : Str)) = false := by decide) (he : starEach (b :: es) X.env = (false, eval b X.env) :: starEach es X.env := by rfl) (hpl : (backTo pos (starEach es X.env)).any (·.1) = false := by rfl)
    (h1 : (assignEach (.Name y p :: tgs) X.env).length = js.length + 1 := by rfl) (hst : (assignEach (.Name y p :: tgs) X.env).findIdx? (·.1) = none := by rfl)
    (hs : swapsWithSole [.Tuple (.Name y p :: tgs) x1 pp] (.Call (.Name x p2) (b :: es) [] pos) pos2.line X.env = pure false := by rfl) (hw : swappedStores [.Tuple (.Name y p :: tgs) x1 pp] (.Call (.Name x p2) (b :: es) [] pos) X.env = pure none := by rfl)
    (h2 : (assignEach [.Tuple (.Name y p :: tgs) x1 pp] X.env).map (·.2) = [assign (.Tuple (.Name y p :: tgs) x1 pp) X.env] := by rfl) (hcc : (assignEach (.Name y p :: tgs) X.env).map (·.2) = assign (.Name y p) X.env :: (assignEach tgs X.env).map (·.2) := by rfl) :
    SSt X C (.Assign [.Tuple (.Name y p :: tgs) x1 pp] (.Call (.Name x p2) (b :: es) [] pos) pos2) (tAsg (tCallS (spFU X.K C.XR k f) (CE C) ts) (gTup X.K (js.length + 1) (gCons (gName i) g))) (sPutU i js f ml) := by
  obtain ⟨a, fd, ps, Fk, hm, hkp, hb⟩ := c.ex
  refine ⟨ps_asg (pe_callS Fk hr hg hm hkp hb hl ha.pe hdb he hpl) (pg_tup F.ca (pgs_cons (pg_name hN hi hx hf) hg'.pe hcc) h1 hst) hs hw h2, es_putU c.ln hg'.ev ha.ev⟩
end
structure FrS (X : Cx) (C : Cn) : Prop where
  hu : X.A.units + 65 < cLine
  le : ∀ {a : Addr} {pn : List (Addr × Obj)}, Lets (X.suite a pn) (CN X.K)
theorem Fr.su {X : Cx} {C : Cn} (F : Fr X C) : FrS X C := ⟨F.hu, Lets.no (C := CN X.K)⟩
section
variable {X : Cx} {C : Cn} {a : Addr} {pn : List (Addr × Obj)}
theorem c_eqS (F : FrS X C) : CmpS (X.suite a pn) .Eq (rEqV X.K) vEq := ⟨op_eqV (X := X.suite a pn) (show X.A.units + _ < _ from by have := F.hu; omega), ops_eq, nx_eq⟩
end
end Vm
noncomputable section
namespace Vm
open PySem PySem.Spec PyProof.Rows RZ L2
variable [TabsOf]
namespace ZM
/-- a cursor that stands at item n of the tuple (t) or list at b -/
def Cur (t : Bool) (h : Heap) (c b : Addr) (n : Nat) : Prop := bif t then h.IsTupleIter c b n else h.IsListIter c b n
/-- the items of the tuple (t) or list at b -/
def Itm (t : Bool) (h : Heap) (b : Addr) (us : Array Value) : Prop := bif t then h.IsTuple b us else h.IsList b us
theorem Cur.lt {t : Bool} {h : Heap} {c b : Addr} {n : Nat} (x : Cur t h c b n) : c < h.objs.size := by
  cases t
  · obtain ⟨_, q, _⟩ := x; exact Heap.lt_size q
  · obtain ⟨_, q, _⟩ := x; exact Heap.lt_size q
theorem Itm.lt {t : Bool} {h : Heap} {b : Addr} {us : Array Value} (x : Itm t h b us) : b < h.objs.size := by
  cases t
  · obtain ⟨_, q, _⟩ := x; exact Heap.lt_size q
  · obtain ⟨_, q, _⟩ := x; exact Heap.lt_size q
theorem Cur.cell {t : Bool} {h : Heap} {c b : Addr} {n : Nat} (x : Cur t h c b n) : ∃ o, h.get? c = some o ∧ ∀ v, o.data ≠ .cell v := by
  cases t
  · obtain ⟨o, q, _, d⟩ := x; exact ⟨o, q, fun v w => by rw [d] at w; cases w⟩
  · obtain ⟨o, q, _, d⟩ := x; exact ⟨o, q, fun v w => by rw [d] at w; cases w⟩
def nm (t : Bool) : Obj := { cls := .type (bif t then "tuple_iterator" else "list_iterator"), data := .fields #[.none, .int 0 0] }
def SqM (t : Bool) (K : PySem.W.Frag) (H : Hp) (a : Addr) (xs : List V) : Prop := bif t then SqT K H a xs else SqL K H a xs
theorem SqM.ok {t : Bool} {X : Cx} {pins : List (Addr × Obj)} {σ : L2.St} {H : Hp} {s : Shared} {a : Addr} {xs : List V} (I : Inv X pins σ H s) (h : SqM t X.K H a xs) : ∃ its : List Value, Vals xs its ∧ Itm t s.heap a its.toArray := by
  cases t
  · obtain ⟨its, r, p, _⟩ := I.list h
    exact ⟨its, r, p.isList⟩
  · obtain ⟨its, r, p, _⟩ := I.tuple h
    exact ⟨its, r, p⟩
theorem SqM.inj {t : Bool} {X : Cx} {pins : List (Addr × Obj)} {σ : L2.St} {H : Hp} {s : Shared} {a : Addr} {xs ys : List V} (I : Inv X pins σ H s) (h : SqM t X.K H a xs) (h' : SqM t X.K H a ys) : xs = ys := by
  cases t
  · exact I.list_inj h h'
  · exact I.tuple_inj h h'
end ZM
open ZM
end Vm
end
noncomputable section
namespace Vm
open PySem L2 PyProof.Rows
variable [TabsOf]
section
variable {K : PySem.W.Frag} {C : Cn}
theorem SRD.own {B : Bs} {M H M1 : Hp} {σ : L2.St} {env : Env} {fs : List Addr} {D : Addr} {acc : List V} {ys : List Val} (S : SR K (BD B D acc M1) M H σ env fs) (hm : B.m D = none) (hh : B.h D = none) (hl : Sub B.l M1) {i : Nat} (hi : i < env.length) (r : RVs K M acc ys) :
    ∃ fs', SR K B M H (σ.set i (some (.ref D))) (env.set i (.oL ys)) fs' := by
  obtain ⟨s0, f1, f, f2, h1, h2, h3, h4⟩ := S.sl.at (List.getElem?_eq_getElem hi)
  have hM := SRD.low S hm
  refine ⟨f1 ++ ([D] ++ f2), ⟨⟨S.g.hh.unupd hh, S.g.nn, S.g.nh, fun a q => ?_⟩, hl.trans S.lo, fun a ha => ?_, ?_, h4 (Same.refl _) (fun a ha => rfl) (.oL (SRD.at S) r)⟩⟩
  · rcases S.g.nw a q with h | h
    · exact .inl h
    · have hne : a ≠ D := fun z => q (by rw [z]; exact hM)
      have h : upd B.h D (.lst acc) a = none := h
      rw [upd_ne hne] at h; exact .inr h
  · simp only [List.mem_append, List.mem_singleton] at ha
    rcases ha with ha | ha | ha
    · exact ⟨(S.fr a (by rw [h2]; simp [ha])).1, (SRD.ne S (by rw [h2]; simp [ha])).2⟩
    · subst ha; exact ⟨hM, hh⟩
    · exact ⟨(S.fr a (by rw [h2]; simp [ha])).1, (SRD.ne S (by rw [h2]; simp [ha])).2⟩
  · refine nodup_mid (by rw [← h2]; exact S.nd) (List.nodup_cons.mpr ⟨by simp, .nil⟩) fun a ha hb => ?_
    rw [List.mem_singleton] at ha
    subst ha
    refine (SRD.ne S (a := a) ?_).1 rfl
    rw [h2]
    simp only [List.mem_append] at hb ⊢
    rcases hb with h | h <;> simp [h]
end
end Vm
end
noncomputable section
namespace Vm
open PySem L2 PyProof.Rows
variable [TabsOf]
abbrev BDo (B : Bs) (D : Addr) (o : L2.HO) (M1 : Hp) : Bs := { B with h := upd B.h D o, l := M1 }
section
variable {K : PySem.W.Frag} {C : Cn} {B : Bs} {M H M1 H1 : Hp} {σ : L2.St} {env : Env} {fs : List Addr} {D : Addr} {acc : L2.HO}
theorem SRO.at (S : SR K (BDo B D acc M1) M H σ env fs) (hw : Wr acc = true := by rfl) : H D = some acc := S.g.hh.to D _ upd_same (wr_ntb hw)
theorem SRO.low (S : SR K (BDo B D acc M1) M H σ env fs) (hm : B.m D = none) : M D = none := by
  cases hq : M D with
  | none => rfl
  | some o =>
    rcases S.g.nw D (by rw [hq]; simp) with h | h
    · exact absurd hm h
    · have h : upd B.h D acc D = none := h
      rw [upd_same] at h; cases h
theorem SRO.ne (S : SR K (BDo B D acc M1) M H σ env fs) {a : Addr} (ha : a ∈ fs) : a ≠ D ∧ B.h a = none := by
  have h : upd B.h D acc a = none := (S.fr a ha).2
  have hne : a ≠ D := fun z => by rw [z, upd_same] at h; cases h
  rw [upd_ne hne] at h
  exact ⟨hne, h⟩
theorem SRO.start {o0 : L2.HO} (S : SR K B M1 H σ env fs) (hD : H D = none) : SR K (BDo B D o0 M1) M1 (upd H D o0) σ env fs := by
  have hne : ∀ a o, H a = some o → a ≠ D := fun a o q => ne_of_none q hD
  have hM : M1 D = none := by
    cases hq : M1 D with
    | none => rfl
    | some o => have := S.g.nh D o hq; rw [hD] at this; cases this
  refine ⟨⟨S.g.hh.upd2, S.g.nn, S.g.nh.newH hD, fun a q => ?_⟩, Same.refl _, fun a ha => ⟨(S.fr a ha).1, ?_⟩, S.nd, S.sl.mono (Same.refl _) fun a ha => ?_⟩
  · rcases S.g.nw a q with h | h
    · exact .inl h
    · refine .inr ?_
      show upd B.h D o0 a = none
      rw [upd_ne fun z => q (by rw [z]; exact hM)]; exact h
  · show upd B.h D o0 a = none
    rw [upd_ne fun z => S.sl.known a ha (by rw [z]; exact hD)]
    exact (S.fr a ha).2
  · exact upd_ne fun z => S.sl.known a ha (by rw [z]; exact hD)
theorem SRO.done (S : SR K (BDo B D acc M1) M H σ env fs) (hm : B.m D = none) (hh : B.h D = none) (hl : Sub B.l M1) (hw : Wr acc = true := by rfl) : SR K B (upd M D acc) H σ env fs := by
  have hM := SRO.low S hm
  have sub : Sub M (upd M D acc) := fun a o q => by rw [upd_ne (ne_of_none q hM)]; exact q
  refine ⟨⟨S.g.hh.unupd hh, S.g.nn.trans sub, S.g.nh.add (SRO.at S hw) (wr_ntb hw), fun a q => ?_⟩, hl.trans (S.lo.trans sub), fun a ha => ⟨?_, (SRO.ne S ha).2⟩, S.nd, S.sl.mono sub fun _ _ => rfl⟩
  · by_cases ha : a = D
    · exact .inr (ha ▸ hh)
    · rw [upd_ne ha] at q
      rcases S.g.nw a q with h | h
      · exact .inl h
      · have h : upd B.h D acc a = none := h
        rw [upd_ne ha] at h; exact .inr h
  · rw [upd_ne (SRO.ne S ha).1]; exact (S.fr a ha).1
end
section
variable {K : PySem.W.Frag} {C : Cn}
theorem SRO.own {B : Bs} {M H M1 : Hp} {σ : L2.St} {env : Env} {fs : List Addr} {D : Addr} {acc : List (L2.Key × V)} {ys : List (Key × Val)} (S : SR K (BDo B D (.dK acc) M1) M H σ env fs) (hm : B.m D = none) (hh : B.h D = none) (hl : Sub B.l M1) {i : Nat} (hi : i < env.length) (r : RKs K M acc ys) :
    ∃ fs', SR K B M H (σ.set i (some (.ref D))) (env.set i (.oD ys)) fs' := by
  obtain ⟨s0, f1, f, f2, h1, h2, h3, h4⟩ := S.sl.at (List.getElem?_eq_getElem hi)
  have hM := SRO.low S hm
  refine ⟨f1 ++ ([D] ++ f2), ⟨⟨S.g.hh.unupd hh, S.g.nn, S.g.nh, fun a q => ?_⟩, hl.trans S.lo, fun a ha => ?_, ?_, h4 (Same.refl _) (fun a ha => rfl) (.oD (SRO.at S) r)⟩⟩
  · rcases S.g.nw a q with h | h
    · exact .inl h
    · have hne : a ≠ D := fun z => q (by rw [z]; exact hM)
      have h : upd B.h D (.dK acc) a = none := h
      rw [upd_ne hne] at h; exact .inr h
  · simp only [List.mem_append, List.mem_singleton] at ha
    rcases ha with ha | ha | ha
    · exact ⟨(S.fr a (by rw [h2]; simp [ha])).1, (SRO.ne S (by rw [h2]; simp [ha])).2⟩
    · subst ha; exact ⟨hM, hh⟩
    · exact ⟨(S.fr a (by rw [h2]; simp [ha])).1, (SRO.ne S (by rw [h2]; simp [ha])).2⟩
  · refine nodup_mid (by rw [← h2]; exact S.nd) (List.nodup_cons.mpr ⟨by simp, .nil⟩) fun a ha hb => ?_
    rw [List.mem_singleton] at ha
    subst ha
    refine (SRO.ne S (a := a) ?_).1 rfl
    rw [h2]
    simp only [List.mem_append] at hb ⊢
    rcases hb with h | h <;> simp [h]
end
end Vm
end
noncomputable section
namespace Vm
open PySem L2 PyProof.Rows
variable [TabsOf]
section
variable {K : PySem.W.Frag} {C : Cn}
theorem SV.tree {N : Hp} {σ : L2.St} {env : Env} {t : Tr} (h : SV K N σ env) : ∀ {i : Nat}, env[i]? = some (.oT t) → ∃ v, σ[i]? = some (some v) ∧ RV K N v t.val := by
  induction h with
  | nil => intro i h; simp at h
  | oT r _ ih =>
    intro i h
    cases i with
    | zero =>
      simp only [List.getElem?_cons_zero, Option.some.injEq] at h
      cases h
      exact ⟨_, rfl, r⟩
    | succ i => rw [List.getElem?_cons_succ] at h ⊢; exact ih h
  | un _ ih => intro i h; cases i with
    | zero => simp at h
    | succ i => rw [List.getElem?_cons_succ] at h ⊢; exact ih h
  | sh _ _ ih => intro i h; cases i with
    | zero => simp at h
    | succ i => rw [List.getElem?_cons_succ] at h ⊢; exact ih h
  | oL _ _ ih => intro i h; cases i with
    | zero => simp at h
    | succ i => rw [List.getElem?_cons_succ] at h ⊢; exact ih h
  | oD _ _ ih => intro i h; cases i with
    | zero => simp at h
    | succ i => rw [List.getElem?_cons_succ] at h ⊢; exact ih h
  | me _ _ ih => intro i h; cases i with
    | zero => simp at h
    | succ i => rw [List.getElem?_cons_succ] at h ⊢; exact ih h
end
end Vm
end
namespace Vm
open PySem L2 PyProof.Rows PySem.W LamX
variable [TabsOf]
/-- the slots of a lambda's body: its parameter, then the captured names -/
structure LamP (sc scope : Scope) (N : List Str) (p : Str) (caps : List (Str × Nat)) : Prop where
  kind : scope.kind = .function
  co : scope.isCoroutine = false
  gen : scope.isGenerator = false
  par : scope.names.lookup p = some .local
  loc : ∀ y ∈ scope.names, y.2 = .local → y.1 = p
  cel : ∀ y ∈ scope.names, y.2 ≠ .cell
  free : ∀ y ∈ scope.names, y.2 = .free → sc.names.lookup y.1 = some .cell ∨ sc.names.lookup y.1 = some .free
  caps : ∀ c ∈ caps, scope.names.lookup c.1 = some .free ∧ N[c.2]? = some c.1
theorem LamP.has {X : Cx} {scope : Scope} {N : List Str} {p : Str} {caps : List (Str × Nat)} (L : LamP X.env.scope scope N p caps) (ok : X.Ok) : ∀ y ∈ scope.names, y.2 = .free → ∃ c, X.env.cells.lookup y.1 = some c := fun y hy e => ok.has y.1 (L.free y hy e)
end Vm
namespace OSet
open PySem PySem.Spec PyProof.Rows L2 PpSet PySem.W
def kf : Value → Key
  | .int i _ => .inl i
  | .str x _ => .inr x
  | _ => .inl 0
theorem kf_of {k : Key} {v : Value} (h : keyIs k v = true) : kf v = k := by
  rcases keyIs_shape h with ⟨i, t, rfl, rfl⟩ | ⟨x, t, rfl, rfl⟩ <;> rfl
abbrev El := Int × Value
def kfE (e : El) : Key := kf e.2
abbrev keysOf (es : Array El) : List Key := es.toList.map kfE
structure Fit (w : World) (es : Array El) (t : SetTable) (S : Key → Bool) : Prop where
  mem : ∀ e ∈ es.toList, ∃ k, keyIs k e.2 = true ∧ e.1 = keyH w k
  nd : (keysOf es).Nodup
  has : ∀ k, S k = true ↔ k ∈ keysOf es
  room : es.size < scanBound
  fits : t.fits es.size = true
  ris : Ris t.place.toList
  led : w.params.followText "set-order" = true ∨ t.led = true
/-- the set at a -/
def At (w : World) (h : Heap) (a : Addr) (S : Key → Bool) (n : Nat) : Prop := ∃ o es ep t, h.get? a = some o ∧ o.ExactSet ∧ o.data = .set es ep t ∧ es.size = n ∧ Fit w es t S
section
variable {P : Program} {w : World} {A : Around} {E : Value → Shared → Prop} {s : Shared} {h h' : Heap} {a : Addr} {S : Key → Bool} {n : Nat} {es : Array El} {t : SetTable} {k : Key} {v : Value}
theorem At.to (R : At w h a S n) (g : ∀ o, h.get? a = some o → h'.get? a = some o) : At w h' a S n :=
  let ⟨o, es, ep, t, ho, r⟩ := R
  ⟨o, es, ep, t, g o ho, r⟩
/-- an element more, laid out anew -/
theorem Fit.snoc {es1 : Array El} {t1 : SetTable} (F : Fit w es t S) (hv : keyIs k v = true) (hk : k ∉ keysOf es) (pm : es1.toList.Perm ((keyH w k, v) :: es.toList)) (hr : es.size + 1 < scanBound) (h1 : t1.fits es1.size = true) (h2 : Ris t1.place.toList) (h3 : t1.led = t.led) :
    es1.size = es.size + 1 ∧ Fit w es1 t1 fun j => S j || decide (j = k) := by
  have hz : es1.size = es.size + 1 := by rw [← Array.length_toList, pm.length_eq, List.length_cons, Array.length_toList]
  have pk : (keysOf es1).Perm (k :: keysOf es) := by
    have := pm.map kfE
    rw [List.map_cons, show kfE (keyH w k, v) = k from kf_of hv] at this
    exact this
  refine ⟨hz, fun e he => ?_, pk.nodup_iff.mpr (List.nodup_cons.mpr ⟨hk, F.nd⟩), fun j => ?_, by rw [hz]; exact hr, h1, h2, F.led.imp id fun z => by rw [h3]; exact z⟩
  · rcases List.mem_cons.mp (pm.mem_iff.mp he) with z | z
    · exact ⟨k, by rw [z]; exact hv, by rw [z]⟩
    · exact F.mem e z
  · rw [Bool.or_eq_true, decide_eq_true_eq, F.has j, pk.mem_iff, List.mem_cons]
    exact Or.comm
end
/-- a set with these members there can be -/
def Real (w : World) (S : Key → Bool) (n : Nat) : Prop := ∃ es t, es.size = n ∧ Fit w es t S
def kVal : Key → Value
  | .inl i => .int i 0
  | .inr x => .str x 0
theorem kVal_is : ∀ k : Key, keyIs k (kVal k) = true
  | .inl i => keyIs_int i 0
  | .inr x => keyIs_str x 0
def more (S : Key → Bool) (k : Key) : Key → Bool := fun j => S j || decide (j = k)
theorem Real.add {w : World} {S : Key → Bool} {n : Nat} (R : Real w S n) (k : Key) (room : n + 1 < scanBound) : Real w (more S k) (if S k = true then n else n + 1) := by
  obtain ⟨es, t, rfl, F⟩ := R
  by_cases hk : S k = true
  · rw [if_pos hk]
    refine ⟨es, t, rfl, F.mem, F.nd, fun i => ?_, F.room, F.fits, F.ris, F.led⟩
    show (S i || decide (i = k)) = true ↔ _
    rw [Bool.or_eq_true, decide_eq_true_eq, ← F.has i]
    exact ⟨fun z => z.elim id (fun e => e ▸ hk), .inl⟩
  · rw [if_neg hk]
    have pm := layNew_perm t es (keyH w k) (kVal k)
    rw [Array.toList_push] at pm
    obtain ⟨z, F'⟩ := F.snoc (kVal_is k) (fun z => hk ((F.has k).2 z)) (pm.trans (List.perm_append_singleton _ _)) room (layNew_fits t es (keyH w k) (kVal k)) (layNew_ris t es (keyH w k) (kVal k) F.ris) (layNew_led t es (keyH w k) (kVal k))
    exact ⟨_, _, z, F'⟩
end OSet
noncomputable section
namespace Vm
open PySem L2 PyProof.Rows PySem.W
instance decMemK (k : Key) (acc : List Key) : Decidable (k ∈ acc) := decidable_of_iff (acc.any (fun j => decide (j = k)) = true) (by
  rw [List.any_eq_true]
  exact ⟨fun ⟨j, h, e⟩ => of_decide_eq_true e ▸ h, fun h => ⟨k, h, decide_eq_true rfl⟩⟩)
section
variable [TabsOf] {X : Cx} {C : Cn} {p pos pos2 : Pos} {tt : TT} {mt : EB} {elt tg iter : Expr} {ifs : List Expr} {scope : Scope} {own : List (Str × Nat)} {wi : TI} {it : EI} {g : TG} {put : Put} {is : List Nat} {te : TE} {me : EX}
theorem boot_len : bootBuiltins "len" = some (.builtin "len") := by decide +kernel
end
end Vm
end
namespace Vm
open PySem L2 PyProof.Rows
variable [TabsOf]
def InsO : HO → Prop
  | .ins _ _ _ => True
  | .own _ => True
  | _ => False
def isV : Tr → Bool
  | .v _ => true
  | _ => false
def bareO : Tr → Bool
  | .o _ fs => fs.all fun p => isV p.2
  | _ => false
section
variable {K : PySem.W.Frag} {N : Hp} {fs : List Addr}
theorem RTo.bare {M H : Hp} : ∀ {ts : List (Str × Tr)} {vs : List (Str × V)} {f : List Addr}, RTo K M H vs ts f → (ts.all fun p => isV p.2) = true → f = []
  | [], _, _, .nil, _ => rfl
  | (_, t) :: ts, _, _, .cons r r', h => by
    rw [List.all_cons, Bool.and_eq_true] at h
    cases r with
    | v _ => exact RTo.bare r' h.2
    | _ => exact absurd h.1 (by simp [isV])
theorem RT.bare {M H : Hp} {v : V} {t : Tr} {f : List Addr} (r : RT K M H v t f) (h : bareO t = true) : ∀ a ∈ f, ∃ o, H a = some o ∧ InsO o := by
  cases r with
  | @o a dx c vs ts f ha hd ro =>
    have := ro.bare h
    subst this
    intro b hb
    simp only [List.mem_cons, List.not_mem_nil, or_false] at hb
    rcases hb with rfl | rfl
    · exact ⟨_, ha, True.intro⟩
    · exact ⟨_, hd, True.intro⟩
  | _ => exact absurd h (by simp [bareO])
end
end Vm
noncomputable section
namespace Vm
open PySem PySem.Spec PyProof.Rows RZ L2
namespace ZM
end ZM
open ZM
end Vm
end
namespace Vm
open PySem PySem.Spec L2 PyProof.Rows
variable [TabsOf]
abbrev SK := Option (List Key → Bool)
def putT (kvs : List (List Key × Val)) (k : List Key) (v : Val) : List (List Key × Val) := if (kvs.any fun kv => decide (kv.1 = k)) = true then kvs.map (fun kv => if kv.1 = k then (kv.1, v) else kv) else kvs ++ [(k, v)]
def EvFDT (K : PySem.W.Frag) (C : Cn) (te : TE) (m : EX) : Prop := ∀ N H σ env, Inn N H → SV K N σ env → ∀ Q : VK, PostR C σ N H (m env) (fun x N' H' => ∃ xs, x = Val.dcT xs ∧ ∀ p vs, H' p = none → RTs K N' vs xs → Q (.ref p) (upd H' p (.dT vs))) → te σ H Q
section
variable {K : PySem.W.Frag} {C : Cn} {N : Hp} {st : SK}
theorem RTs.anyK {k : List Key} : ∀ {vs : List (List L2.Key × V)} {xs : List (List Key × Val)}, RTs K N vs xs → (vs.any fun kv => decide (kv.1 = k)) = (xs.any fun kv => decide (kv.1 = k))
  | _, _, .nil => rfl
  | _, _, .cons _ r => by rw [List.any_cons, List.any_cons, RTs.anyK r]
theorem RTs.mapK {k : List Key} {v : V} {x : Val} (h : RV K N v x) : ∀ {vs : List (List L2.Key × V)} {xs : List (List Key × Val)}, RTs K N vs xs → RTs K N (vs.map fun kv => if kv.1 = k then (kv.1, v) else kv) (xs.map fun kv => if kv.1 = k then (kv.1, x) else kv)
  | _, _, .nil => .nil
  | _, _, .cons (k := k0) h0 r => by
    rw [List.map_cons, List.map_cons]
    by_cases e : k0 = k
    · simp only [e, if_true]
      exact .cons h (RTs.mapK h r)
    · simp only [e, if_false]
      exact .cons h0 (RTs.mapK h r)
theorem RTs.snoc {k : List Key} {v : V} {x : Val} (h : RV K N v x) : ∀ {vs : List (List L2.Key × V)} {xs : List (List Key × Val)}, RTs K N vs xs → RTs K N (vs ++ [(k, v)]) (xs ++ [(k, x)])
  | _, _, .nil => .cons h .nil
  | _, _, .cons h0 r => .cons h0 (RTs.snoc h r)
theorem RTs.put {k : List Key} {v : V} {x : Val} {vs : List (List L2.Key × V)} {xs : List (List Key × Val)} (r : RTs K N vs xs) (h : RV K N v x) : RTs K N (putK vs k v) (putT xs k x) := by
  unfold putK putT
  rw [r.anyK]
  split
  · exact r.mapK h
  · exact r.snoc h
end
section
variable {X : Cx} {C : Cn} {kx vx tg iter tg1 iter1 a : Expr} {ifs ifs1 : List Expr} {scope : Scope} {own : List (Str × Nat)} {own1 is is1 : List Nat} {pos p : Pos} {wi wi1 : TI} {it it1 : EI} {g g1 : TG} {put put1 : Put} {tt tt1 : TT} {mt mt1 : EB} {tk tv ta : TE} {mk mv ma : EX}
theorem EvFDT.e {K : PySem.W.Frag} {C : Cn} {te : TE} {m : EX} (hd : ∀ env x, m env = .ok x → ∃ xs, x = .dcT xs) (h : EvFDT K C te m) : EvE K C te m := fun N H σ env e s Q hq => by
  refine h N H σ env e s Q ?_
  cases hm : m env with
  | bad => rw [hm] at hq; exact hq.elim
  | exc q => rw [hm] at hq; exact hq
  | ok x =>
    rw [hm] at hq
    obtain ⟨xs, rfl⟩ := hd env x hm
    intro N' H' g
    refine ⟨xs, rfl, fun p vs hf r => ?_⟩
    have g2 := g.trans (Gr.new g.nh hf (o := .dT vs))
    exact hq _ _ g2 _ (.dcT upd_same (RTs.mono (fun a o q => by
      have hn : N' p = none := by
        cases hz : N' p with
        | none => rfl
        | some o' => have := g.nh p o' hz; rw [hf] at this; cases this
      rw [upd_ne (ne_of_none q hn)]; exact q) _ r))
end
end Vm
namespace Vm
open PySem PySem.Spec L2 L2H PyProof.Rows
variable [TabsOf]
structure FnQ (P : Program) (w : World) (K : PySem.W.Frag) (mg : PySem.Str → Option Value) (base : Heap) (CX : CXT) (k : Nat) (f : Addr) (fd : FuncData) (ps : List PySem.Str) (sp : Sp) : Prop where
  len : ∀ vs H Q E, sp vs H Q E → vs.length = ps.length
  run : ∀ (A : Around) (outer : List PySem.Env) (s : Shared) (H : Hp) (args : Args) (us : List Value) (vs : List V) (Q : VK) (E : XK), RoomH k A → Env0 P w K mg base A outer s H → BindsTo s fd args (ps.zip us) → Vals vs us → sp vs H Q E →
    codeAny (model P w) A (.call (.ref f) args) (CR CX outer P w H s Q E) s
def cxQ (CX : CXT) (P : Program) (w : World) (K : PySem.W.Frag) (mg : PySem.Str → Option Value) (base : Heap) (N : List PySem.Str) (qual : PySem.Str) (scope : Scope) (f : Addr) (cd : Value) (A : Around) (outer : List PySem.Env) (s : Shared) (H : Hp) (E : XK) : Cx :=
  { cxOf CX P w K mg base N qual scope f cd A outer s H E with calm := false, pn := [] }
theorem inv_startQ {CX : CXT} {P : Program} {w : World} {K : PySem.W.Frag} {mg : PySem.Str → Option Value} {base : Heap} {N ps : List PySem.Str} {qual : PySem.Str} {scope : Scope} {f : Addr} {cd : Value} {A : Around} {outer : List PySem.Env} {s s1 : Shared} {H : Hp} {E : XK} {us : List Value} {vs : List V}
    (S : FnScope N ps scope) (e0 : Env0 P w K mg base A outer s H) (hl : vs.length = ps.length) (r : Vals vs us)
    (x : InCallC s s.heap.objs.size (bindL (envOfC qual scope s.heap.objs.size f cd).kindOf (ps.zip us) fun _ => none) (cellsFrom (s.heap.objs.size + 1) scope.names []) (bindC (envOfC qual scope s.heap.objs.size f cd).kindOf (ps.zip us) fun _ => none) s1) :
    Inv (cxQ CX P w K mg base N qual scope f cd A outer s H E) [] (L2.start N vs) H s1 := by
  have hpl : ps.length ≤ N.length := by have := congrArg List.length S.pre; rw [List.length_take] at this; omega
  obtain ⟨h1, tk, rfl, hk⟩ := x.done
  have noA : ∀ b : Addr, b ∉ (cxQ CX P w K mg base N qual scope f cd A outer s H E).ex := fun b z => absurd (show b ∈ ([] : List Addr) from z) (by simp)
  refine ⟨⟨e0.mod, S.kind, rfl, rfl, Nat.le_refl _, fun y z c h1 h2 => ?_, fun y hy => ?_, fun y c _ h => ?_, (fun z => Bool.noConfusion (show false = true from z)), Around.frames_deeper e0.frames, .inr ⟨rfl, rfl⟩, fun b z => absurd z (noA b), e0.bs, e0.bsz, fun b _ _ => noA b, fun b z => absurd z (noA b), e0.funs, e0.frf⟩,
    rfl, e0.bare, Un.kept hk, ⟨_, x.toInCall.ns, fun i y v h1 h2 h3 => ?_⟩, fun y c h => ⟨_, x.cell y c h⟩, e0.hok.fresh (Nat.le_refl _), fun y c h => ?_, fun q hq => ?_, e0.hok.kept hk, ?_⟩
  · exact name_of_addr x.apart (PySem.mem_of_lookup h1) (PySem.mem_of_lookup h2)
  · have hy : scope.names.lookup y = some .cell ∨ scope.names.lookup y = some .free := hy
    rcases hy with hy | hy
    · exact cell_has hy
    · exact absurd rfl (S.nofree _ (PySem.mem_of_lookup hy))
  · exact Nat.le_of_lt (x.above y c (PySem.mem_of_lookup h))
  · have hi : i < vs.length := by
      unfold L2.start at h2
      by_cases hi : i < vs.length
      · exact hi
      · rw [List.getElem?_append_right (by simpa using hi)] at h2
        rw [List.getElem?_replicate] at h2
        split at h2 <;> cases h2
    have ha : vs[i]? = some v := by
      unfold L2.start at h2
      rw [List.getElem?_append_left (by simpa using hi), List.getElem?_map] at h2
      cases e : vs[i]? with
      | none => rw [e] at h2; cases h2
      | some a => rw [e] at h2; cases h2; rfl
    obtain ⟨u, hu, rv⟩ := r.get ha
    have hp : ps[i]? = some y := by
      rw [← S.pre, List.getElem?_take_of_lt (by omega)]; exact h1
    have ndP : ps.Nodup := by rw [← S.pre]; exact S.nd.sublist (List.take_sublist _ _)
    refine ⟨u, rv, ?_⟩
    rcases S.par y (List.mem_of_getElem? hp) with k | k
    · exact .inl ⟨k, bindL_get ndP hp hu k⟩
    · obtain ⟨c, e⟩ := cell_has (n := s.heap.objs.size + 1) k
      refine .inr ⟨.inl k, c, e, ?_⟩
      have q := x.cell y c e
      rw [bindC_get ndP hp hu (by show scope.names.lookup y ≠ _; rw [k]; decide)] at q
      exact q
  · exact e0.hok.fresh (Nat.le_of_lt (x.above y c (PySem.mem_of_lookup h)))
  · exact absurd (show q ∈ ([] : List (Addr × Obj)) ++ ([] : List (Addr × Obj)) from hq) (by simp)
  · unfold L2.start
    show _ = N.length
    rw [List.length_append, List.length_map, List.length_replicate]
    omega
theorem fn_ofQ {CX : CXT} {P : Program} {w : World} {K : PySem.W.Frag} {mg : PySem.Str → Option Value} {base : Heap} {k : Nat} {f : Addr} {name qual : PySem.Str} {params : Arguments} {body : List Stmt} {scope : Scope} {dV kV doc pm cdv ct oc : Value} {an od : Option Addr}
    {osl : Array (Option Value)} {N ps : List PySem.Str} {sp : Sp} (lk : K.lookup f = some ⟨oc, od, .func (PySem.W.fnOf name qual params body scope dV kV doc pm an cdv ct), osl⟩) (hcd : PySem.W.codeIn K cdv qual = true) (S : FnScope N ps scope)
    (len : ∀ vs H Q E, sp vs H Q E → vs.length = ps.length)
    (hbody : ∀ (A : Around) (outer : List PySem.Env) (s : Shared) (H : Hp) (vs : List V) (Q : VK) (E : XK), RoomH k (A.deeper (envOfC qual scope s.heap.objs.size f cdv)) → sp vs H Q E →
      ∃ t, PSs (cxQ CX P w K mg base N qual scope f cdv A outer s H E) body t ∧ t { nx := fun _ H' => Q .non H', rt := Q } (L2.start N vs) H) :
    FnQ P w K mg base CX (k + 1) f (PySem.W.fnOf name qual params body scope dV kV doc pm an cdv ct) ps sp := by
  refine ⟨len, fun A outer s H args us vs Q E hr e0 hb r hsp => ?_⟩
  have hl := len _ _ _ _ hsp
  have KX : K.In s.heap := e0.mod.kin.keeps fun b o e => (e0.bs b o e).1
  have lim : s.heap.NoLimit := e0.mod.nolimit.keeps fun b o e => (e0.bs b o e).1
  have hkind : ∀ y ∈ ps.zip us, scope.names.lookup y.1 = some .local ∨ (scope.names.lookup y.1 = some .cell ∧ ((cellsFrom (s.heap.objs.size + 1) scope.names []).lookup y.1).isSome = true) := fun ⟨n, v⟩ hy => by
    rcases S.par n (List.of_mem_zip hy).1 with q | q
    · exact .inl q
    · exact .inr ⟨q, PySem.W.cellsFrom_some _ _ _ (.inl q)⟩
  refine codeAny_call_function hr.depth (KX _ _ lk) rfl S.co S.gen rfl (PySem.W.codeRec_of KX hcd) (hb _ _ _ _ ?_)
  refine wpAny_newFunctionEnv_cells S.kind hkind fun env he s1 x => ?_
  subst he
  refine ⟨lim.keeps x.toInCall.keep, codeAny_func ?_⟩
  obtain ⟨t, ht, hq⟩ := hbody A outer s H vs Q E (hr.deeper _) hsp
  have I : Inv (cxQ CX P w K mg base N qual scope f cdv A outer s H E) [] (L2.start N vs) H s1 := inv_startQ S e0 hl r x
  refine wpAny_mono (ht.run [] s1 (L2.start N vs) H _ I hq) (fun fl s' hs => ?_) fun e s' hs => hs
  have fin : ∀ {σ' : L2.St} {H' : Hp} {v : V} {u : Value}, Inv (cxQ CX P w K mg base N qual scope f cdv A outer s H E) [] σ' H' s' → RelV v u → Q v H' → L2.CE outer P w H s Q u s' :=
    fun {σ' H' v u} J rv q => ⟨v, H', J.os, J.bare, J.base, J.hok, rv, q⟩
  cases fl with
  | ret u =>
    obtain ⟨v, σ', H', J, rv, q⟩ := hs
    exact fin J rv q
  | next =>
    obtain ⟨σ', H', J, q⟩ := hs
    exact fin (v := V.non) (u := Value.none) J rfl q
  | brk =>
    obtain ⟨_, _, _, q⟩ := hs
    exact False.elim q
  | cont =>
    obtain ⟨_, _, _, q⟩ := hs
    exact False.elim q
section
variable {X : Cx} {CX : CXT} {k : Nat} {f C : Addr} {fd : FuncData} {ps : List PySem.Str} {sp : Sp} {E : L2.St → XK} {x m : PySem.Str} {pos apos : Pos} {e o : Expr} {es : List Expr} {ta : TE} {t : TA}
theorem run_fnQ {pins : List (Addr × Obj)} {σ : L2.St} {H : Hp} {s : Shared} {Q : VK} {us : List Value} {vs : List V} (F : FnQ X.prog X.w X.K X.mg X.base CX k f fd ps sp) (hr : RoomH k X.A) (hb : Binds X.K fd ps []) (hx : PassesAt CX X σ (E σ))
    (I : Inv X pins σ H s) (r : Vals vs us) (h : sp vs H Q (E σ)) : wpAny (model X.prog X.w) X.A (call (.ref f) us) (EP X pins σ Q) X.xe s := by
  have hl : us.length = ps.length := by rw [← r.length]; exact F.len _ _ _ _ h
  have b := hb s us I.kIn (by rw [List.append_nil]; exact hl)
  rw [List.append_nil] at b
  refine wpAny_call (codeAny_mono (F.run X.A X.stack s H ⟨us, []⟩ us vs Q (E σ) hr I.env0 b r h) fun r s' hq => ?_)
  cases r with
  | error e => exact hx pins H s e s' I hq
  | ok fl =>
    cases fl with
    | ret u => exact I.after hq
    | next => exact False.elim hq
    | brk => exact False.elim hq
    | cont => exact False.elim hq
theorem pe_methQ0 {pl : Sem Bool} (he : PE X o ta) (c : Cls X.K C) (hm : Meth X.K C m f) (F : FnQ X.prog X.w X.K X.mg X.base CX k f fd ps sp) (hr : RoomH k X.A) (hb : Binds X.K fd ps []) (hx : ∀ σ, PassesAt CX X σ (E σ))
    (ht : eval (.Call (.Attribute o m apos) [] [] pos) X.env = (do
      let ov ← eval o X.env
      standAt apos.atName
      let (f, first) ← holding [ov] (getMethod ov m pl)
      callWith pos f first (backTo pos (starEach [] X.env)) (backToKw pos (keywordEach [] X.env))) := by rfl) :
    PE X (.Call (.Attribute o m apos) [] [] pos) (tMethS C m sp E ta tNil) := by
  refine ⟨fun pins s σ H Q I h => ?_⟩
  refine PySem.W.methodCall_KW (pl := pl) (thn (he.run pins s σ H _ I h) fun u s1 ⟨x, H1, I1, rx, a, dx, fs, ex, ea, l, q⟩ => ?_) ht
  subst ex
  obtain rfl : u = Value.ref a := rx
  refine getmeth_ok I1 ea c hm l ?_
  exact PySem.W.callWith_K0 (first := [.ref a]) I1.kIn hm.kp (run_fnQ (us := [.ref a]) (vs := [.ref a]) F hr hb (hx σ) I1 (.cons rfl .nil) q)
end
section
variable {P : Program} {w : World} {K : PySem.W.Frag} {mg : PySem.Str → Option Value} {base : Heap} {XR : XRel}
theorem okQ {CX : CXT} {x qual : PySem.Str} {params : Arguments} {body : List Stmt} {scope : Scope} {dvs : List V} {kws : List (PySem.Str × V)} {f : Addr} {fd : FuncData} {N ps : List PySem.Str} {k : Nat} {sp : Sp} (F : FunD K x qual params body scope dvs kws f fd) (S : FnScope N ps scope) (len : ∀ vs H Q E, sp vs H Q E → vs.length = ps.length)
    (hbody : ∀ (cdv : Value) (A : Around) (outer : List PySem.Env) (s : Shared) (H : Hp) (vs : List V) (Q : VK) (E : XK), RoomH k (A.deeper (envOfC qual scope s.heap.objs.size f cdv)) → sp vs H Q E →
      ∃ t, PSs (cxQ CX P w K mg base N qual scope f cdv A outer s H E) body t ∧ t { nx := fun _ H' => Q .non H', rt := Q } (L2.start N vs) H) : FnQ P w K mg base CX (k + 1) f fd ps sp := by
  obtain ⟨oc, od, dV, kV, doc, pm, an, cdv, ct, osl, rfl, lk, hcd, _, _⟩ := F.ex
  exact fn_ofQ lk hcd S len fun A outer s H vs Q E hr hsp => hbody cdv A outer s H vs Q E hr hsp
def BodyQ (P : Program) (w : World) (K : PySem.W.Frag) (mg : PySem.Str → Option Value) (base : Heap) (N : List PySem.Str) (qual : PySem.Str) (scope : Scope) (body : List Stmt) (m : ST) : Prop :=
  ∀ (f : Addr) (cd : Value) (A : Around) (outer : List PySem.Env) (s : Shared) (H : Hp) (E : XK), let X := cxQ (L2.CX P w) P w K mg base N qual scope f cd A outer s H E
    ∃ t, SSs X (CN K) body t m
theorem fn_okQ {x qual : PySem.Str} {params : Arguments} {body : List Stmt} {scope : Scope} {dvs : List V} {kws : List (PySem.Str × V)} {f : Addr} {fd : FuncData} {N ps : List PySem.Str} {j k n : Nat} {m : ST} (F : FunD K x qual params body scope dvs kws f fd) (S : FnScope N ps scope)
    (hk : ps.length = k) (hn : N.length = n) (hq : ∀ xs z, defn k n m xs ≠ .exc z) (hb : BodyQ P w K mg base N qual scope body m) : FnQ P w K mg base (L2.CX P w) (j + 1) f fd ps (spF K XR k (defn k n m)) := by
  refine okQ F S (fun vs H Q E h => ?_) (fun cdv A outer s H vs Q E hr h => ?_)
  · obtain ⟨N0, xs, _, r, hl, _⟩ := h
    rw [r.length, hl, hk]
  · obtain ⟨t, h1, h2⟩ := hb f cdv A outer s H E
    refine ⟨t, h1, ?_⟩
    obtain ⟨N0, xs, e, r, hl, q⟩ := h
    have hst : SO K .non N0 H (L2.start N vs) (startE n xs) [] := by
      unfold L2.start startE
      rw [hn, r.length]
      exact so_start r
    refine h2 ⟨N0, H, fun _ => none, .non⟩ N0 H _ _ [] ⟨Gr.refl e, (fun a o q => nomatch q), (fun a ha => by cases ha), List.nodup_nil, hst⟩ _ ?_
    unfold defn at q
    rw [if_pos hl] at q
    cases hm : m (startE n xs) with
    | next e => rw [hm] at q; exact fun M H' σ fs S' => q M H' S'.g _ .non
    | ret x e => rw [hm] at q; exact fun M' N' H' v σ fs _ _ _ g rv _ => q N' H' g v rv
    | exc z e => exact absurd (by unfold defn; rw [if_pos hl, hm]) (hq xs z)
    | brk e => rw [hm] at q; exact q.elim
    | cont e => rw [hm] at q; exact q.elim
    | bad => rw [hm] at q; exact q.elim
structure MetQ (P : Program) (w : World) (K : PySem.W.Frag) (mg : PySem.Str → Option Value) (base : Heap) (XR : XRel) (c m : PySem.Str) (j k : Nat) (f : Fn) : Prop where
  ex : ∃ a fd ps, FnQ P w K mg base (L2.CX P w) j a fd ps (spF K XR (k + 1) f) ∧ Meth K (He.ga K c) m a ∧ Binds K fd ps []
  cl : Cls K (He.ga K c)
  ln : ∀ xs, f xs ≠ .bad → xs.length = k + 1
theorem metQ_of {c x qual : PySem.Str} {params : Arguments} {body : List Stmt} {scope : Scope} {f : Addr} {fd : FuncData} {N ps : List PySem.Str} {j k n : Nat} {m : ST} (F : FunD K x qual params body scope [] [] f fd) (hm : Meth K (He.ga K c) x f) (cl : Cls K (He.ga K c)) (S : FnScope N ps scope) (hb : BindsX x qual params body scope ps) (hk : ps.length = k + 1) (hn : N.length = n) (hq : ∀ xs z, defn (k + 1) n m xs ≠ .exc z) (h : BodyQ P w K mg base N qual scope body m) : MetQ P w K mg base XR c x (j + 1) k (defn (k + 1) n m) :=
  ⟨⟨f, fd, ps, fn_okQ F S hk hn hq h, hm, F.bindsN hb⟩, cl, fun _ => defn_ne⟩
end
section
variable {X : Cx} {C : Cn} {cn mm : PySem.Str} {a : Expr} {ta : TE} {ma : EX} {pos apos : Pos} {ad : Addr} {pn : List (Addr × Obj)} {j jj : Nat}
theorem se_methQ0 {f : Fn} {pl : Sem Bool} (cc : MetQ X.prog X.w X.K X.mg X.base (CN X.K).XR cn mm j 0 f) (hr : Room j X.A) (hl : Lets (X.suite ad pn) (CN X.K)) (ho : SE (X.suite ad pn) (CN X.K) a ta ma)
    (ht : eval (.Call (.Attribute a mm apos) [] [] pos) (X.suite ad pn).env = (do
      let ov ← eval a (X.suite ad pn).env
      standAt apos.atName
      let (f, first) ← holding [ov] (getMethod ov mm pl)
      callWith pos f first (backTo pos (starEach [] (X.suite ad pn).env)) (backToKw pos (keywordEach [] (X.suite ad pn).env))) := by rfl) :
    SE (X.suite ad pn) (CN X.K) (.Call (.Attribute a mm apos) [] [] pos) (tMethS (He.ga X.K cn) mm (spF X.K (CN X.K).XR 1 f) (CE (CN X.K)) ta tNil) (eMeth cn mm f ma aNil) := by
  obtain ⟨_, fd, ps, F, hm, hb⟩ := cc.ex
  exact ⟨pe_methQ0 (X := X.suite ad pn) ho.pe cc.cl hm F ⟨hr.dp, hr.un⟩ hb hl ht, ev_meth cc.ln ho.ev ea_nil⟩
end
theorem nxq_len_fld {c f : PySem.Str} (xs : List Val) (z : Exn) : defn 1 1 (sRet (eArgs vLen (aCons (eFld c f (eVar 0)) aNil))) xs ≠ .exc z := by
  intro h
  unfold defn at h
  split at h
  · rename_i hl
    obtain ⟨x, rfl⟩ := List.length_eq_one_iff.mp hl
    have key : ∀ q, (eArgs vLen (aCons (eFld c f (eVar 0)) aNil)) (startE 1 [x]) ≠ .exc q := by
      intro q hq
      cases x with
      | ob c' ys =>
        have hq : ((if c' = c then Res.ofOpt (ys.lookup f) else Res.bad).bind fun y => (Res.ok ([] : List Val)).bind fun r => Res.ok (y :: r)).bind vLen = .exc q := hq
        split at hq
        · cases hy : ys.lookup f with
          | none => rw [hy] at hq; cases hq
          | some y =>
            rw [hy] at hq
            have hq : vLen [y] = .exc q := hq
            cases y with
            | lst _ => cases hq
            | tup _ => cases hq
            | str t =>
              have hq : (if t.length ≤ 16777216 then Res.ok (Val.int t.length) else Res.bad) = .exc q := hq
              split at hq <;> cases hq
            | _ => cases hq
        · cases hq
      | _ => cases hq
    unfold sRet at h
    cases hR : (eArgs vLen (aCons (eFld c f (eVar 0)) aNil)) (startE 1 [x]) with
    | ok y => rw [hR] at h; cases h
    | bad => rw [hR] at h; cases h
    | exc q => exact key q hR
  · cases h
end Vm
noncomputable section
namespace Vm
def Ok0 (r : Flow) (N : Env → Prop) (R : Val → Prop) (B T : Env → Prop) : Prop := match r with
  | .next e => N e
  | .ret x _ => R x
  | .brk e => B e
  | .cont e => T e
  | _ => False
/-- how a statement ends: N onward, R a value returned, B behind a break, T behind a continue -/
structure Ok (r : Flow) (N : Env → Prop) (R : Val → Prop) (B : Env → Prop := fun _ => False) (T : Env → Prop := fun _ => False) : Prop where
  of : Ok0 r N R B T
theorem Ok_eq (r : Flow) (N R B T) : Ok r N R B T = Ok0 r N R B T := propext ⟨fun h => h.of, fun h => ⟨h⟩⟩
theorem Ok_next (e : Env) (N R B T) : Ok (.next e) N R B T = N e := Ok_eq _ _ _ _ _
theorem Ok_ret (x : Val) (e : Env) (N R B T) : Ok (.ret x e) N R B T = R x := Ok_eq _ _ _ _ _
theorem Ok_brk (e : Env) (N R B T) : Ok (.brk e) N R B T = B e := Ok_eq _ _ _ _ _
theorem Ok_cont (e : Env) (N R B T) : Ok (.cont e) N R B T = T e := Ok_eq _ _ _ _ _
theorem Ok_bind (r : Flow) (f : Env → Flow) (N R B T) : Ok (r.bind f) N R B T = Ok r (fun e => Ok (f e) N R B T) R B T := by
  cases r with
  | next e => rw [Ok_next]; rfl
  | _ => rw [Ok_eq, Ok_eq]; rfl
theorem Ok.imp {r : Flow} {N N' : Env → Prop} {R R' : Val → Prop} {B B' T T' : Env → Prop} (h : Ok r N R B T) (h1 : ∀ e, N e → N' e) (h2 : ∀ x, R x → R' x) (h3 : ∀ e, B e → B' e) (h4 : ∀ e, T e → T' e) : Ok r N' R' B' T' := by
  have h := h.of
  refine ⟨?_⟩
  cases r <;> first | exact h1 _ h | exact h2 _ h | exact h3 _ h | exact h4 _ h | exact h
theorem forL_ok {put : Put} {body : ST} {N R B T} : ∀ (xs : List Val) (I : Nat → Env → Prop) (env : Env), I 0 env →
    (∀ i (h : i < xs.length) env, I i env → ∃ e, put xs[i] env = .ok e ∧ Ok (body e) (I (i + 1)) R N (I (i + 1))) → (∀ env, I xs.length env → N env) → Ok (forL put body xs env) N R B T
  | [], I, env, h0, _, hN => ⟨hN env h0⟩
  | x :: xs, I, env, h0, hs, hN => by
    obtain ⟨e, he, hb⟩ := hs 0 (by simp) env h0
    have he : put x env = .ok e := he
    unfold forL
    rw [he]
    simp only [Res.nx_ok, Res.flow_ok]
    have tl : ∀ e', I 1 e' → Ok (forL put body xs e') N R B T := fun e' h' =>
      forL_ok xs (fun i => I (i + 1)) e' h' (fun i h env hi => hs (i + 1) (by simpa using h) env hi) fun env h => hN env h
    have hb := hb.of
    cases hq : body e with
    | next e' => rw [hq] at hb; exact tl e' hb
    | cont e' => rw [hq] at hb; exact tl e' hb
    | brk e' => rw [hq] at hb; exact ⟨hb⟩
    | ret v => rw [hq] at hb; exact ⟨hb⟩
    | exc q e' => rw [hq] at hb; exact ⟨hb⟩
    | bad => rw [hq] at hb; exact ⟨hb⟩
theorem whileL_ok {t : EB} {body : ST} {N R B T} (I : Nat → Env → Prop)
    (hs : ∀ k env, I k env → ∃ b, t env = .ok b ∧ (b = true → Ok (body env) (fun e => ∃ k', k' < k ∧ I k' e) R N (fun e => ∃ k', k' < k ∧ I k' e)) ∧ (b = false → N env)) :
    ∀ (n k : Nat) (env : Env), k < n → I k env → Ok (whileL t body n env) N R B T
  | 0, k, env, h, _ => by omega
  | n + 1, k, env, h, hi => by
    obtain ⟨b, hb, h1, h2⟩ := hs k env hi
    unfold whileL
    rw [hb]
    simp only [Res.flow_ok]
    cases b with
    | false => exact ⟨h2 rfl⟩
    | true =>
      have hb := (h1 rfl).of
      have tl : ∀ e, (∃ k', k' < k ∧ I k' e) → Ok (whileL t body n e) N R B T := fun e ⟨k', hk, hi'⟩ => whileL_ok I hs n k' e (by omega) hi'
      simp only [cond_true]
      cases hq : body env with
      | next e' => rw [hq] at hb; exact tl e' hb
      | cont e' => rw [hq] at hb; exact tl e' hb
      | brk e' => rw [hq] at hb; exact ⟨hb⟩
      | ret v => rw [hq] at hb; exact ⟨hb⟩
      | exc q e' => rw [hq] at hb; exact ⟨hb⟩
      | bad => rw [hq] at hb; exact ⟨hb⟩
theorem Ok_while {n : Nat} {t : EB} {body : ST} {env : Env} {N R B T} (h : Ok (whileL t body n env) N R B T) : Ok (sWhile n t body env) N R B T := h
theorem defn_ret {k n : Nat} {m : ST} {xs : List Val} {y : Val} (hk : xs.length = k) (h : Ok (m (startE n xs)) (fun _ => y = .non) (fun x => x = y)) : defn k n m xs = .ret y := by
  have h := h.of
  unfold defn
  rw [if_pos hk]
  cases hm : m (startE n xs) with
  | next e => rw [hm] at h; exact congrArg DR.ret (show y = .non from h).symm
  | ret x => rw [hm] at h; exact congrArg DR.ret h
  | brk e => rw [hm] at h; exact h.elim
  | cont e => rw [hm] at h; exact h.elim
  | exc q e => rw [hm] at h; exact h.elim
  | bad => rw [hm] at h; exact h.elim
theorem defn_some {k n : Nat} {m : ST} {xs : List Val} {P : Val → Prop} (hk : xs.length = k) (h : Ok (m (startE n xs)) (fun _ => P .non) P) : ∃ y, defn k n m xs = .ret y ∧ P y := by
  have h := h.of
  unfold defn
  rw [if_pos hk]
  cases hm : m (startE n xs) with
  | next e => rw [hm] at h; exact ⟨_, rfl, h⟩
  | ret x => rw [hm] at h; exact ⟨_, rfl, h⟩
  | brk e => rw [hm] at h; exact h.elim
  | cont e => rw [hm] at h; exact h.elim
  | exc q e => rw [hm] at h; exact h.elim
  | bad => rw [hm] at h; exact h.elim
section
variable {α β : Type}
theorem Ok_cond (c : Bool) (a b : Flow) (N R B T) : Ok (bif c then a else b) N R B T = ((c = true → Ok a N R B T) ∧ (c = false → Ok b N R B T)) := by cases c <;> simp
theorem Ok_ite (c : Prop) [Decidable c] (a : Flow) (N R B T) : Ok (if c then a else .bad) N R B T = (c ∧ Ok a N R B T) := by
  by_cases h : c
  · simp [h]
  · rw [if_neg h, Ok_eq]; simp [h, Ok0]
theorem flow_ite (c : Prop) [Decidable c] (r : Res α) (e : Env) (f : α → Flow) : (if c then r else .bad).flow e f = if c then r.flow e f else .bad := by split <;> rfl
theorem bind_ite (c : Prop) [Decidable c] (r : Res α) (f : α → Res β) : (if c then r else .bad).bind f = if c then r.bind f else .bad := by split <;> rfl
theorem nx_ite' (c : Prop) [Decidable c] (r : Res α) : (if c then r else .bad).nx = if c then r.nx else .bad := by split <;> rfl
theorem flow_cond (c : Bool) (r s : Res α) (e : Env) (f : α → Flow) : (bif c then r else s).flow e f = bif c then r.flow e f else s.flow e f := by cases c <;> rfl
theorem bind_cond (c : Bool) (r s : Res α) (f : α → Res β) : (bif c then r else s).bind f = bif c then r.bind f else s.bind f := by cases c <;> rfl
theorem cond_andV (x y : Bool) : (bif x then Res.ok (Val.bl y) else Res.ok (Val.bl false)) = Res.ok (Val.bl (x && y)) := by cases x <;> rfl
theorem cond_orV (x y : Bool) : (bif x then Res.ok (Val.bl true) else Res.ok (Val.bl y)) = Res.ok (Val.bl (x || y)) := by cases x <;> rfl
theorem cond_and (x y : Bool) : (bif x then Res.ok y else Res.ok false) = Res.ok (x && y) := by cases x <;> rfl
theorem cond_or (x y : Bool) : (bif x then Res.ok true else Res.ok y) = Res.ok (x || y) := by cases x <;> rfl
theorem atI_nat (xs : List α) (k : Nat) : atI xs (k : Int) = xs[k]? := by
  unfold atI ixNat
  simp only [Int.natCast_nonneg, if_true, Int.ofNat_lt, Int.toNat_natCast]
  split
  · rfl
  · rename_i h; simp; omega
theorem atI_0 (xs : List α) : atI xs 0 = xs[0]? := atI_nat xs 0
theorem atI_1 (xs : List α) : atI xs 1 = xs[1]? := atI_nat xs 1
theorem atI_lit (xs : List α) (n : Nat) : atI xs (no_index (OfNat.ofNat n : Int)) = xs[n]? := atI_nat xs n
theorem Ok_ofOpt (o : Option α) (e : Env) (f : α → Flow) (N R B T) : Ok ((Res.ofOpt o).flow e f) N R B T = ∃ a, o = some a ∧ Ok (f a) N R B T := by cases o <;> simp [Res.ofOpt, Res.flow, Ok_eq, Ok0]
theorem eqR_int (i j : Int) : eqR (.int i) (.int j) = .ok (i == j) := rfl
theorem eqR_bl (i j : Bool) : eqR (.bl i) (.bl j) = .ok (i == j) := rfl
theorem eqR_str (i j : Str) : eqR (.str i) (.str j) = .ok (i == j) := rfl
theorem max2 (i j : Int) : (if j > i then j else i) = max i j := by rw [Int.max_def]; split <;> split <;> omega
theorem min2 (i j : Int) : (if j < i then j else i) = min i j := by rw [Int.min_def]; split <;> split <;> omega
theorem vMax2 (i j : Int) : vMax [.int i, .int j] = .ok (.int (max i j)) := by
  show Res.ok (Val.int (if j > i then j else i)) = _
  rw [max2]
theorem vMax3 (i j k : Int) : vMax [.int i, .int j, .int k] = .ok (.int (max (max i j) k)) := by
  show Res.ok (Val.int (if k > (if j > i then j else i) then k else (if j > i then j else i))) = _
  rw [max2, max2]
theorem vMin2 (i j : Int) : vMin [.int i, .int j] = .ok (.int (min i j)) := by
  show Res.ok (Val.int (if j < i then j else i)) = _
  rw [min2]
theorem vDiv_int (i j : Int) : vDiv (.int i) (.int j) = if divOk j = true then .ok (.int (i / j)) else .bad := rfl
theorem vMod_int (i j : Int) : vMod (.int i) (.int j) = if 0 < j then .ok (.int (i % j)) else .bad := rfl
theorem vMul_int (i j : Int) : vMul (.int i) (.int j) = if mulOk i j = true then .ok (.int (i * j)) else .bad := rfl
theorem vPow_lit (i j : Int) (h1 : 0 ≤ j) (h2 : j ≤ 1000000) (h3 : i.natAbs < 18446744073709551616) : vPow (.int i) (.int j) = .ok (.int (i ^ j.toNat)) := if_pos (big_iff.mpr ⟨h1, h2, h3⟩)
theorem vPow18 : vPow (.int 10) (.int 18) = .ok (.int 1000000000000000000) := vPow_lit 10 18 (by omega) (by omega) (by decide)
theorem vPow12 : vPow (.int 10) (.int 12) = .ok (.int 1000000000000) := vPow_lit 10 12 (by omega) (by omega) (by decide)
theorem vPow11 : vPow (.int 10) (.int 11) = .ok (.int 100000000000) := vPow_lit 10 11 (by omega) (by omega) (by decide)
theorem vPow9 : vPow (.int 10) (.int 9) = .ok (.int 1000000000) := vPow_lit 10 9 (by omega) (by omega) (by decide)
theorem vPow6 : vPow (.int 10) (.int 6) = .ok (.int 1000000) := vPow_lit 10 6 (by omega) (by omega) (by decide)
theorem noLst_int (i : Int) : (Val.int i).noLst = true := rfl
theorem noLst_bl (i : Bool) : (Val.bl i).noLst = true := rfl
theorem noLst_str (i : Str) : (Val.str i).noLst = true := rfl
theorem noLst_non : Val.non.noLst = true := rfl
theorem noLst_tup (xs : List Val) : (Val.tup xs).noLst = Val.noLsts xs := rfl
theorem noLsts_nil : Val.noLsts [] = true := rfl
theorem noLsts_cons (x : Val) (xs : List Val) : Val.noLsts (x :: xs) = (x.noLst && Val.noLsts xs) := rfl
theorem noLsts_ints : ∀ ns : List Int, Val.noLsts (ns.map .int) = true
  | [] => rfl
  | _ :: ns => noLsts_ints ns
theorem mulOk_r (i j : Int) (h : -18446744073709551616 < j ∧ j < 18446744073709551616) : mulOk i j = true := big_iff.mpr (.inr h)
theorem mulOk_l (i j : Int) (h : -18446744073709551616 < i ∧ i < 18446744073709551616) : mulOk i j = true := big_iff.mpr (.inl h)
theorem divOk_iff {j : Int} : divOk j = true ↔ 0 < j ∧ j < 1267650600228229401496703205376 := big_iff
end
/-- what follows -/
structure Then (b : ST) (N : Env → Prop) (R : Val → Prop) (B T : Env → Prop) (e : Env) : Prop where
  mk ::
  of : Ok (b e) N R B T
theorem Ok_seq (a b : ST) (env : Env) (N R B T) : Ok (sSeq a b env) N R B T = Ok (a env) (Then b N R B T) R B T := by
  show Ok ((a env).bind b) N R B T = _
  rw [Ok_bind]
  exact congrArg (fun z => Ok (a env) z R B T) (funext fun e => propext ⟨fun h => ⟨h⟩, fun h => h.of⟩)
theorem Ok_for {it : EI} {put : Put} {body : ST} {env : Env} {xs : List Val} {N R B T} (hi : it (hide env) = .ok xs) (h : Ok (forL put body xs env) N R B T) : Ok (sFor it put body env) N R B T := by
  unfold sFor
  rw [hi]
  exact h
theorem vAdd_int (i j : Int) : vAdd (.int i) (.int j) = .ok (.int (i + j)) := rfl
theorem vAdd_lst (xs ys : List Val) : vAdd (.lst xs) (.lst ys) = if xs.length + ys.length ≤ 16777216 then .ok (.lst (xs ++ ys)) else .bad := rfl
theorem vAdd_tup (xs ys : List Val) : vAdd (.tup xs) (.tup ys) = if xs.length + ys.length ≤ 16777216 ∧ xs.isEmpty = false then .ok (.tup (xs ++ ys)) else .bad := rfl
theorem vLen_lst (xs : List Val) : vLen [.lst xs] = .ok (.int xs.length) := rfl
theorem vLen_tup (xs : List Val) : vLen [.tup xs] = .ok (.int xs.length) := rfl
theorem vIx_lst (xs : List Val) (i : Int) : vIx (.lst xs) (.int i) = Res.ofOpt (atI xs i) := rfl
theorem vIx_tup (xs : List Val) (i : Int) : vIx (.tup xs) (.int i) = Res.ofOpt (atI xs i) := rfl
theorem vIx_dct (kvs : List (Key × Val)) (k : Val) : vIx (.dct kvs) k = Res.ofOpt ((keyOfV k).bind (getV kvs)) := rfl
def S (l : List Nat) : Str := ⟨l.toArray⟩
def OkM0 (r : Flow) (N : Env → Prop) (R : Val → Env → Prop) (X : Exn → Env → Prop) (B T : Env → Prop) : Prop := match r with
  | .next e => N e
  | .ret x e => R x e
  | .exc q e => X q e
  | .brk e => B e
  | .cont e => T e
  | .bad => False
structure OkM (r : Flow) (N : Env → Prop) (R : Val → Env → Prop) (X : Exn → Env → Prop := fun _ _ => False) (B : Env → Prop := fun _ => False) (T : Env → Prop := fun _ => False) : Prop where
  of : OkM0 r N R X B T
theorem OkM_eq (r : Flow) (N R X B T) : OkM r N R X B T = OkM0 r N R X B T := propext ⟨fun h => h.of, fun h => ⟨h⟩⟩
theorem OkM_next (e : Env) (N R X B T) : OkM (.next e) N R X B T = N e := OkM_eq _ _ _ _ _ _
theorem OkM_ret (x : Val) (e : Env) (N R X B T) : OkM (.ret x e) N R X B T = R x e := OkM_eq _ _ _ _ _ _
theorem OkM_exc (q : Exn) (e : Env) (N R X B T) : OkM (.exc q e) N R X B T = X q e := OkM_eq _ _ _ _ _ _
theorem OkM_brk (e : Env) (N R X B T) : OkM (.brk e) N R X B T = B e := OkM_eq _ _ _ _ _ _
theorem OkM_cont (e : Env) (N R X B T) : OkM (.cont e) N R X B T = T e := OkM_eq _ _ _ _ _ _
theorem OkM_bind (r : Flow) (f : Env → Flow) (N R X B T) : OkM (r.bind f) N R X B T = OkM r (fun e => OkM (f e) N R X B T) R X B T := by
  cases r with
  | next e => rw [OkM_next]; rfl
  | _ => rw [OkM_eq, OkM_eq]; rfl
theorem OkM_cond (c : Bool) (a b : Flow) (N R X B T) : OkM (bif c then a else b) N R X B T = ((c = true → OkM a N R X B T) ∧ (c = false → OkM b N R X B T)) := by cases c <;> simp
theorem OkM_ite (c : Prop) [Decidable c] (a : Flow) (N R X B T) : OkM (if c then a else .bad) N R X B T = (c ∧ OkM a N R X B T) := by
  by_cases h : c
  · simp [h]
  · rw [if_neg h, OkM_eq]; simp [h, OkM0]
theorem OkM.imp {r : Flow} {N N' : Env → Prop} {R R' : Val → Env → Prop} {X X' : Exn → Env → Prop} {B B' T T' : Env → Prop} (h : OkM r N R X B T) (h1 : ∀ e, N e → N' e) (h2 : ∀ x e, R x e → R' x e) (h5 : ∀ q e, X q e → X' q e) (h3 : ∀ e, B e → B' e) (h4 : ∀ e, T e → T' e) : OkM r N' R' X' B' T' := by
  have h := h.of
  refine ⟨?_⟩
  cases r with
  | next e => exact h1 _ h
  | ret x e => exact h2 _ _ h
  | exc q e => exact h5 _ _ h
  | brk e => exact h3 _ h
  | cont e => exact h4 _ h
  | bad => exact h
structure ThenM (b : ST) (N : Env → Prop) (R : Val → Env → Prop) (X : Exn → Env → Prop) (B T : Env → Prop) (e : Env) : Prop where
  mk ::
  of : OkM (b e) N R X B T
theorem OkM_seq (a b : ST) (env : Env) (N R X B T) : OkM (sSeq a b env) N R X B T = OkM (a env) (ThenM b N R X B T) R X B T := by
  show OkM ((a env).bind b) N R X B T = _
  rw [OkM_bind]
  exact congrArg (fun z => OkM (a env) z R X B T) (funext fun e => propext ⟨fun h => ⟨h⟩, fun h => h.of⟩)
theorem unR_me {e : Env} {t : Tr} (h : meOf e = some t) : unR e = e := by
  cases e with
  | nil => rfl
  | cons s r => cases s <;> first | rfl | cases h
theorem meOf_mkR {e : Env} {t : Tr} (h : meOf e = some t) : meOf (unR (mkR e)) = some t ∧ isR (mkR e) = true := by
  cases e with
  | nil => cases h
  | cons s r => cases s <;> first | exact ⟨h, rfl⟩ | cases h
/-- a method, by what it returns, leaves | raises -/
theorem defnM_retM {k n : Nat} {m : ST} {t t' : Tr} {xs : List Val} {y : Val} (hk : xs.length = k) (hy : y.noLst = true) (h : OkM (m (startM n t xs)) (fun e => y = .non ∧ meOf e = some t') (fun x e => x = y ∧ meOf e = some t')) : defnM k n m t xs = .ret y t' := by
  have h := h.of
  unfold defnM
  rw [if_pos hk]
  cases hm : m (startM n t xs) with
  | next e => rw [hm] at h; obtain ⟨rfl, h2⟩ := h; simp only [endM, h2]
  | ret x e => rw [hm] at h; obtain ⟨rfl, h2⟩ := h; simp only [endM, unR_me h2, h2, hy, true_or, if_true]
  | brk e => rw [hm] at h; exact h.elim
  | cont e => rw [hm] at h; exact h.elim
  | exc q e => rw [hm] at h; exact h.elim
  | bad => rw [hm] at h; exact h.elim
/-- a method whose value has lists in it -/
theorem defnM_retW {k n : Nat} {m : ST} {t t' : Tr} {xs : List Val} {y : Val} (hk : xs.length = k) (h : ∃ e, m (startM n t xs) = .ret y (mkR e) ∧ meOf e = some t') : defnM k n m t xs = .ret y t' := by
  obtain ⟨e, h1, h2⟩ := h
  unfold defnM
  rw [if_pos hk, h1]
  obtain ⟨h3, h4⟩ := meOf_mkR h2
  simp only [endM, h3, h4, or_true, if_true]
theorem defnM_excM {k n : Nat} {m : ST} {t t' : Tr} {xs : List Val} {q : Exn} (hk : xs.length = k) (h : OkM (m (startM n t xs)) (fun _ => False) (fun _ _ => False) (fun z e => z = q ∧ meOf e = some t')) : defnM k n m t xs = .exc q t' := by
  have h := h.of
  unfold defnM
  rw [if_pos hk]
  cases hm : m (startM n t xs) with
  | next e => rw [hm] at h; exact h.elim
  | ret x e => rw [hm] at h; exact h.elim
  | brk e => rw [hm] at h; exact h.elim
  | cont e => rw [hm] at h; exact h.elim
  | exc z e => rw [hm] at h; obtain ⟨rfl, h2⟩ := h; simp only [endM, h2]
  | bad => rw [hm] at h; exact h.elim
theorem RSflow_ite {α : Type} (c : Prop) [Decidable c] (r : RS α) (f : α → Env → Flow) : (if c then r else .bad).flow f = if c then r.flow f else .bad := by split <;> rfl
theorem RSbind_ite {α β : Type} (c : Prop) [Decidable c] (r : RS α) (f : α → Env → RS β) : (if c then r else .bad).bind f = if c then r.bind f else .bad := by split <;> rfl
theorem RSflow_cond {α : Type} (c : Bool) (r s : RS α) (f : α → Env → Flow) : (bif c then r else s).flow f = bif c then r.flow f else s.flow f := by cases c <;> rfl
theorem RSbind_cond {α β : Type} (c : Bool) (r s : RS α) (f : α → Env → RS β) : (bif c then r else s).bind f = bif c then r.bind f else s.bind f := by cases c <;> rfl
theorem rs_ite {α : Type} (c : Prop) [Decidable c] (r : Res α) (e : Env) : (if c then r else .bad).rs e = if c then r.rs e else .bad := by split <;> rfl
theorem rs_cond {α : Type} (c : Bool) (r s : Res α) (e : Env) : (bif c then r else s).rs e = bif c then r.rs e else s.rs e := by cases c <;> rfl
local macro_rules | `(tactic| simp! [$ts,*]) => `(tactic| simp only [Ok_seq, OkM_seq, OkM_next, OkM_ret, OkM_exc, OkM_brk, OkM_cont, OkM_bind, OkM_cond, OkM_ite, RS.bind_ok, RS.bind_exc, RS.bind_bad, Res.flow_exc, Flow.bind_exc, RS.flow_ok, RS.flow_exc, RS.flow_bad, Res.rs_ok, Res.rs_exc, Res.rs_bad, RSflow_ite, RSbind_ite, RSflow_cond, RSbind_cond, rs_ite, rs_cond, mH, mN, mNil, mCons, mLst, mTup, m1, m2, mIf, mAnd, mOr, mNot, mFn, mArgs, bmP, bmV, bmT, bmAnd, bmOr, bmNot, sSetM, sDropM, sRetM, sIfM, sRaise, sSet, sSetN, sOwn, sOwnN, sAppend, sAppendN, sFreeze, sForget, sIf, sRet, sRetN, sNext, sPut, sDrop, sAug, sOn, sItem, sItemN, itemPut, sBreak, sCont, hide, Slot.hide, eVar, eC, e1, e2, eArgs, eAnd, eOr, eNot, eIf, eChain, eCall, eCut, partOf, aNil, aCons, asBl, bVal, bTruth, bAnd, bOr, bNot, bYes, truth, vAdd_int, vAdd_lst, vAdd_tup, vSub, vMul_int, vDiv_int, vMod_int, vPow18, vPow12, vPow11, vPow9, vPow6, vNeg, vLt, vLe, vGt, vGe, vEq, vNe, eqR_int, eqR_bl, eqR_str, vIsi, Val.isOb, vTup, vLst, vLen_lst, vLen_tup, vInt, vIs, vIsNot, vIx_lst, vIx_tup, vIx_dct, vListOf, vTupOf, vIpAdd, vMax2, vMax3, vMin2, Val.ty, Ty.sub, noLst_int, noLst_bl, noLst_str, noLst_non, noLst_tup, noLsts_nil, noLsts_cons, noLsts_ints, pName, pTup, pTupL, putAll, iSeq, itemsOf, iRange1, iRange2, DR.res, Res.ofOpt_some, Res.ofOpt_none, Res.bind_ok, Res.bind_exc, Res.bind_bad, Res.nx_ok, Res.flow_ok, Res.flow_bad, Flow.bind_next, Flow.bind_ret, Flow.bind_brk, Flow.bind_cont, Flow.bind_bad, Ok_next, Ok_ret, Ok_brk, Ok_cont, Ok_bind, Ok_cond, Ok_ite, Ok_ofOpt, flow_ite, bind_ite, nx_ite', flow_cond, bind_cond, cond_andV, cond_orV, cond_and, cond_or, atI_nat, atI_0, atI_1, atI_lit, startE, List.map_cons, List.map_nil, List.length_cons, List.length_nil, List.getElem?_cons_zero, List.getElem?_cons_succ, List.set_cons_zero, List.set_cons_succ, List.set_nil, List.replicate, List.append_nil, List.cons_append, List.nil_append, Nat.sub_self, Nat.reduceAdd, Nat.reduceSub, Nat.reduceLT, Nat.reduceLeDiff, Nat.reduceEqDiff, Int.reduceLE, Int.reduceLT, Int.reduceToNat, Int.reducePow, Int.reduceMul, Int.reduceAdd, Int.reduceSub, Int.reduceNeg, Int.cast_ofNat_Int, if_true, if_false, ↓reduceIte, reduceCtorEq, beq_self_eq_true, and_true, true_and, decide_eq_true_eq, decide_eq_false_iff_not, Bool.not_eq_true', Bool.not_eq_false', Bool.and_true, Bool.true_and, Bool.or_true, Bool.and_false, Bool.or_false, Bool.false_or, Bool.true_or, Bool.false_and, Bool.not_true, Bool.not_false, beq_iff_eq, forall_const, false_implies, Option.map_some, decide_true, decide_false, cond_true, cond_false, $ts,*])
def m_parts_ca_1 : ST := (sSet 3 (e2 vDiv (eVar 3) (e2 vIx (eVar 1) (eVar 4))))
def m_parts_cae_2 : ST := (sAppend 2 (e2 vMod (eArgs vInt (aCons (eVar 5) aNil)) (e2 vIx (eVar 1) (eVar 4))))
def m_parts_cae_1 : ST := (sSeq (sSet 5 (e2 vMod (eArgs vInt (aCons (e2 vAdd (e2 vAdd (e2 vMul (eVar 5) (eVar 5)) (e2 vMul (eC (.int 16807)) (eVar 4))) (eC (.int 5))) aNil)) (eC (.int 998244353))))
    m_parts_cae_2)
def m_parts_c_L : ST := (sIf (bVal (e2 vGe (eVar 3) (eC (.int 0)))) (sSeq (sAppend 2 (e2 vMod (eArgs vInt (aCons (eVar 3) aNil)) (e2 vIx (eVar 1) (eVar 4))))
    m_parts_ca_1) (sSeq (sSet 5 (e2 vMod (eArgs vInt (aCons (e2 vAdd (e2 vAdd (e2 vMul (eVar 0) (eC (.int 48271))) (e2 vMul (eVar 4) (eC (.int 69621)))) (eC (.int 11))) aNil)) (eC (.int 2147483647))))
    m_parts_cae_1))
def m_parts_c_F : ST := (sFor (iRange1 (eArgs vLen (aCons (eVar 1) aNil))) (pName 4) m_parts_c_L)
def m_parts_4 : ST := (sRet (eVar 2))
def m_parts_3 : ST := (sSeq (sFreeze 2) m_parts_4)
def m_parts_2 : ST := (sSeq m_parts_c_F
    m_parts_3)
def m_parts_1 : ST := (sSeq (sSet 3 (e2 vSub (eVar 0) (e2 vPow (eC (.int 10)) (eC (.int 18)))))
    m_parts_2)
def m_parts : ST := (sSeq (sOwn 2 (eArgs vLst aNil))
    m_parts_1)
/-- each part lies under its size -/
def Parts (ps sizes : List Int) : Prop := ps.length = sizes.length ∧ ∀ i (h : i < ps.length) (h' : i < sizes.length), 0 ≤ ps[i] ∧ ps[i] < sizes[i]
theorem map_get? {β : Type} (f : Int → β) (xs : List Int) (i : Nat) (h : i < xs.length) : (xs.map f)[i]? = some (f xs[i]) := by
  rw [List.getElem?_map, List.getElem?_eq_getElem h]; rfl
theorem smallI_nat {n : Nat} (h : n ≤ 16777216) : smallI (n : Int) = true := by
  exact big_iff.mpr ⟨by omega, by omega⟩
theorem range1_ok {a : EX} {env : Env} {n : Nat} (ha : a env = .ok (.int n)) (h : n ≤ 16777216) : iRange1 a env = .ok (rangeL 0 n) := by
  unfold iRange1
  rw [ha]
  simp only [Res.bind_ok, smallI_nat h, if_true, Int.toNat_natCast]
theorem range_get (lo : Int) (n i : Nat) (h : i < (rangeL lo n).length) : (rangeL lo n)[i] = .int (lo + i) := by simp [rangeL]
theorem range_len (lo : Int) (n : Nat) : (rangeL lo n).length = n := by simp [rangeL]
theorem Parts.nil : Parts [] [] := ⟨rfl, fun i h => by cases h⟩
theorem parts_ok (c : Int) (sizes : List Int) (hs : ∀ n ∈ sizes, 0 < n ∧ n < 18446744073709551616) (hl : sizes.length ≤ 100) : ∃ y, defn 2 6 m_parts [.int c, .lst (sizes.map .int)] = .ret y ∧ ∃ ps, y = .lst (ps.map .int) ∧ Parts ps sizes := by
  refine defn_some rfl ?_
  unfold m_parts
  simp! []
  refine Then.mk ?_; unfold m_parts_1; simp! []
  refine Then.mk ?_; unfold m_parts_2; simp! []
  unfold m_parts_c_F
  refine Ok_for (xs := rangeL 0 sizes.length) ?_ ?_
  · exact range1_ok (by simp! [List.length_map]) (by omega)
  refine forL_ok _ (fun i env => ∃ (r : Int) (ps : List Int) (s4 s5 : Slot), env = [.sh (.int c), .sh (.lst (sizes.map .int)), .oL (ps.map .int), .sh (.int r), s4, s5] ∧ i ≤ sizes.length ∧ Parts ps (sizes.take i)) _ ⟨_, [], .un, .un, rfl, Nat.zero_le _, Parts.nil⟩ ?_ ?_
  · rintro i hi env ⟨r, ps, s4, s5, rfl, hi', hp⟩
    rw [range_len] at hi
    rw [range_get, Int.zero_add]
    refine ⟨[.sh (.int c), .sh (.lst (sizes.map .int)), .oL (ps.map .int), .sh (.int r), .sh (.int i), s5], rfl, ?_⟩
    have hn := hs sizes[i] (List.getElem_mem hi)
    have hget : (sizes.map Val.int)[i]? = some (.int sizes[i]) := map_get? _ _ _ hi
    have hlen : ps.length = i := by rw [hp.1, List.length_take]; omega
    have hpow : sizes[i] < 1267650600228229401496703205376 := by have := hn.2; omega
    have step : ∀ (x r' : Int) (s4 s5 : Slot), 0 ≤ x → x < sizes[i] → ∃ (r : Int) (ps' : List Int) (s4' s5' : Slot), [Slot.sh (.int c), .sh (.lst (sizes.map .int)), .oL (ps.map .int ++ [.int x]), .sh (.int r'), s4, s5] = [.sh (.int c), .sh (.lst (sizes.map .int)), .oL (ps'.map .int), .sh (.int r), s4', s5'] ∧ i + 1 ≤ sizes.length ∧ Parts ps' (sizes.take (i + 1)) := by
      intro x r' s4 s5 h1 h2
      refine ⟨r', ps ++ [x], s4, s5, by simp, hi, ?_⟩
      refine ⟨by simp [hlen]; omega, fun j h h' => ?_⟩
      by_cases hj : j < i
      · have := hp.2 j (by omega) (by rw [List.length_take]; omega)
        simp only [List.getElem_append_left (show j < ps.length by omega), List.getElem_take] at this ⊢
        exact this
      · have hj' : j = i := by simp at h; omega
        subst hj'
        simp [hlen]
        exact ⟨h1, h2⟩
    unfold m_parts_c_L
    simp! [hget, List.length_map, hlen]
    refine ⟨fun h0 => ⟨hn.1, by omega, ?_⟩, fun h0 => ⟨mulOk_r _ _ (by omega), mulOk_r _ _ (by omega), ?_⟩⟩
    · refine Then.mk ?_; unfold m_parts_ca_1; simp! [hget]
      exact ⟨divOk_iff.mpr ⟨hn.1, hpow⟩, step _ _ _ _ (Int.emod_nonneg _ (by omega)) (Int.emod_lt_of_pos _ hn.1)⟩
    · refine Then.mk ?_; unfold m_parts_cae_1; simp! [hget]
      refine ⟨mulOk_r _ _ ?_, mulOk_l _ _ (by omega), ?_⟩
      · have h1 := Int.emod_nonneg (c * 48271 + ↑i * 69621 + 11) (show (2147483647 : Int) ≠ 0 by omega)
        have h2 := Int.emod_lt_of_pos (c * 48271 + ↑i * 69621 + 11) (show (0 : Int) < 2147483647 by omega)
        omega
      · refine Then.mk ?_; unfold m_parts_cae_2; simp! [hget, List.length_map, hlen]
        exact ⟨hn.1, by omega, step _ _ _ _ (Int.emod_nonneg _ (by omega)) (Int.emod_lt_of_pos _ hn.1)⟩
  · rintro env ⟨r, ps, s4, s5, rfl, _, hp⟩
    rw [range_len, List.take_length] at hp
    refine Then.mk ?_; unfold m_parts_3; simp! []
    refine Then.mk ?_; unfold m_parts_4; simp! []
    exact ⟨_, rfl, hp⟩
/-- a cell of the script (the laws' own helper) -/
def m_cell : ST := (sSeq (sIf (bVal (e2 vLt (eVar 1) (eArgs vLen (aCons (eVar 0) aNil)))) (sRet (e2 vIx (eVar 0) (eVar 1))) sNext)
    (sRet (eC (.int 0))))
theorem cell_ok (ns : List Int) (k : Nat) : ∃ c, defn 2 2 m_cell [.lst (ns.map .int), .int k] = .ret (.int c) := by
  suffices h : ∃ y, defn 2 2 m_cell [.lst (ns.map .int), .int k] = .ret y ∧ ∃ c, y = .int c by
    obtain ⟨y, h, c, rfl⟩ := h; exact ⟨c, h⟩
  refine defn_some rfl ?_
  unfold m_cell
  simp! [List.length_map]
  refine ⟨fun h => ?_, fun _ => Then.mk ?_⟩
  · rw [map_get? _ _ _ (by omega)]
    exact ⟨_, rfl, _, rfl⟩
  · simp! []
    exact ⟨_, rfl⟩
theorem Parts.nil' {ps : List Int} (h : Parts ps []) : ps = [] := List.eq_nil_of_length_eq_zero h.1
theorem Parts.cons {ps ns : List Int} {n : Int} (h : Parts ps (n :: ns)) : ∃ p ps', ps = p :: ps' ∧ (0 ≤ p ∧ p < n) ∧ Parts ps' ns := by
  obtain ⟨h1, h2⟩ := h
  cases ps with
  | nil => cases h1
  | cons p ps =>
    refine ⟨p, ps, rfl, h2 0 (by simp) (by simp), by simpa using h1, fun i h h' => ?_⟩
    exact h2 (i + 1) (by simpa using h) (by simpa using h')
end Vm
end
noncomputable section
namespace Vm
local macro_rules | `(tactic| simp! [$ts,*]) => `(tactic| simp only [Ok_seq, OkM_seq, OkM_next, OkM_ret, OkM_exc, OkM_brk, OkM_cont, OkM_bind, OkM_cond, OkM_ite, RS.bind_ok, RS.bind_exc, RS.bind_bad, Res.flow_exc, Flow.bind_exc, RS.flow_ok, RS.flow_exc, RS.flow_bad, Res.rs_ok, Res.rs_exc, Res.rs_bad, RSflow_ite, RSbind_ite, RSflow_cond, RSbind_cond, rs_ite, rs_cond, mH, mN, mNil, mCons, mLst, mTup, m1, m2, mIf, mAnd, mOr, mNot, mFn, mArgs, bmP, bmV, bmT, bmAnd, bmOr, bmNot, sSetM, sDropM, sRetM, sIfM, sRaise, sSet, sSetN, sOwn, sOwnN, sAppend, sAppendN, sFreeze, sForget, sIf, sRet, sRetN, sNext, sPut, sDrop, sAug, sOn, sItem, sItemN, itemPut, sBreak, sCont, hide, Slot.hide, eVar, eC, e1, e2, eArgs, eAnd, eOr, eNot, eIf, eChain, eCall, eCut, partOf, aNil, aCons, asBl, bVal, bTruth, bAnd, bOr, bNot, bYes, truth, vAdd_int, vAdd_lst, vAdd_tup, vSub, vMul_int, vDiv_int, vMod_int, vPow18, vPow12, vPow11, vPow9, vPow6, vNeg, vLt, vLe, vGt, vGe, vEq, vNe, eqR_int, eqR_bl, eqR_str, vIsi, Val.isOb, vTup, vLst, vLen_lst, vLen_tup, vInt, vIs, vIsNot, vIx_lst, vIx_tup, vIx_dct, vListOf, vTupOf, vIpAdd, vMax2, vMax3, vMin2, Val.ty, Ty.sub, noLst_int, noLst_bl, noLst_str, noLst_non, noLst_tup, noLsts_nil, noLsts_cons, noLsts_ints, pName, pTup, pTupL, putAll, iSeq, itemsOf, iRange1, iRange2, DR.res, Res.ofOpt_some, Res.ofOpt_none, Res.bind_ok, Res.bind_exc, Res.bind_bad, Res.nx_ok, Res.flow_ok, Res.flow_bad, Flow.bind_next, Flow.bind_ret, Flow.bind_brk, Flow.bind_cont, Flow.bind_bad, Ok_next, Ok_ret, Ok_brk, Ok_cont, Ok_bind, Ok_cond, Ok_ite, Ok_ofOpt, flow_ite, bind_ite, nx_ite', flow_cond, bind_cond, cond_andV, cond_orV, cond_and, cond_or, atI_nat, atI_0, atI_1, atI_lit, startE, List.map_cons, List.map_nil, List.length_cons, List.length_nil, List.getElem?_cons_zero, List.getElem?_cons_succ, List.set_cons_zero, List.set_cons_succ, List.set_nil, List.replicate, List.append_nil, List.cons_append, List.nil_append, Nat.sub_self, Nat.reduceAdd, Nat.reduceSub, Nat.reduceLT, Nat.reduceLeDiff, Nat.reduceEqDiff, Int.reduceLE, Int.reduceLT, Int.reduceToNat, Int.reducePow, Int.reduceMul, Int.reduceAdd, Int.reduceSub, Int.reduceNeg, Int.cast_ofNat_Int, if_true, if_false, ↓reduceIte, reduceCtorEq, beq_self_eq_true, and_true, true_and, decide_eq_true_eq, decide_eq_false_iff_not, Bool.not_eq_true', Bool.not_eq_false', Bool.and_true, Bool.true_and, Bool.or_true, Bool.and_false, Bool.or_false, Bool.false_or, Bool.true_or, Bool.false_and, Bool.not_true, Bool.not_false, beq_iff_eq, forall_const, false_implies, Option.map_some, decide_true, decide_false, cond_true, cond_false, $ts,*])
theorem compL_ok {α : Type} {put : Put} {tt : EB} {el : EX} {env : Env} (enc : α → Val) (p : α → Bool) (g : α → Val) : ∀ (xs : List α), (∀ x ∈ xs, ∃ e, put (enc x) env = .ok e ∧ tt e = .ok (p x) ∧ (p x = true → el e = .ok (g x))) → compL put tt el env (xs.map enc) = .ok ((xs.filter p).map g)
  | [], _ => rfl
  | x :: xs, h => by
    obtain ⟨e, h1, h2, h3⟩ := h x List.mem_cons_self
    have ih := compL_ok enc p g xs fun y hy => h y (List.mem_cons_of_mem _ hy)
    rw [List.map_cons]
    unfold compL
    rw [h1]
    simp only [Res.nx_ok, Res.bind_ok, h2]
    cases hp : p x with
    | false => simp only [cond_false, ih, List.filter_cons, hp]; rfl
    | true => simp only [cond_true, h3 hp, ih, Res.nx_ok, Res.bind_ok, List.filter_cons, hp, if_true, List.map_cons]
theorem compL_all {α : Type} {put : Put} {el : EX} {env : Env} (enc : α → Val) (g : α → Val) (xs : List α) (h : ∀ x ∈ xs, ∃ e, put (enc x) env = .ok e ∧ el e = .ok (g x)) : compL put bYes el env (xs.map enc) = .ok (xs.map g) := by
  have := compL_ok (put := put) (tt := bYes) (el := el) (env := env) enc (fun _ => true) g xs fun x hx => by
    obtain ⟨e, h1, h2⟩ := h x hx
    exact ⟨e, h1, rfl, fun _ => h2⟩
  rwa [List.filter_eq_self.mpr (fun _ _ => rfl)] at this
theorem eComp_ok {α : Type} {it : EI} {own : List Nat} {put : Put} {tt : EB} {el : EX} {env : Env} (enc : α → Val) (p : α → Bool) (g : α → Val) (xs : List α) (hi : it env = .ok (xs.map enc)) (hl : xs.length ≤ 16777216) (h : ∀ x ∈ xs, ∃ e, put (enc x) (wipeE env own) = .ok e ∧ tt e = .ok (p x) ∧ (p x = true → el e = .ok (g x))) : eComp it own put tt el env = .ok (.lst ((xs.filter p).map g)) := by
  unfold eComp
  rw [hi]
  simp only [Res.bind_ok]
  rw [if_pos (by rw [List.length_map]; exact hl), compL_ok enc p g xs h]
  rfl
theorem eComp_all {α : Type} {it : EI} {own : List Nat} {put : Put} {el : EX} {env : Env} (enc : α → Val) (g : α → Val) (xs : List α) (hi : it env = .ok (xs.map enc)) (hl : xs.length ≤ 16777216) (h : ∀ x ∈ xs, ∃ e, put (enc x) (wipeE env own) = .ok e ∧ el e = .ok (g x)) : eComp it own put bYes el env = .ok (.lst (xs.map g)) := by
  unfold eComp
  rw [hi]
  simp only [Res.bind_ok]
  rw [if_pos (by rw [List.length_map]; exact hl), compL_all enc g xs h]
  rfl
structure Rect where
  l : Str
  a : Int
  b : Int
  c : Int
  d : Int
def Rect.v (r : Rect) : Val := .tup [.str r.l, .int r.a, .int r.b, .int r.c, .int r.d]
def Rect.up (y : Int) (r : Rect) : Rect := ⟨r.l, r.a, r.b + y, r.c, r.d + y⟩
end Vm
end
noncomputable section
namespace Vm
namespace Lib
open PySem
def m__law_cell_1 : ST := (sRet (eC (.int 0)))
def m__law_cell : ST := (sSeq (sIf (bVal (e2 vLt (eVar 1) (eArgs vLen (aCons (eVar 0) aNil)))) (sRet (e2 vIx (eVar 0) (eVar 1))) sNext)
    m__law_cell_1)
def f__law_cell : Fn := defn 2 2 m__law_cell
def m__law_parts_ca_1 : ST := (sSet 3 (e2 vDiv (eVar 3) (e2 vIx (eVar 1) (eVar 4))))
def m__law_parts_cae_2 : ST := (sAppend 2 (e2 vMod (eArgs vInt (aCons (eVar 5) aNil)) (e2 vIx (eVar 1) (eVar 4))))
def m__law_parts_cae_1 : ST := (sSeq (sSet 5 (e2 vMod (eArgs vInt (aCons (e2 vAdd (e2 vAdd (e2 vMul (eVar 5) (eVar 5)) (e2 vMul (eC (.int 16807)) (eVar 4))) (eC (.int 5))) aNil)) (eC (.int 998244353))))
    m__law_parts_cae_2)
def m__law_parts_c_L : ST := (sIf (bVal (e2 vGe (eVar 3) (eC (.int 0)))) (sSeq (sAppend 2 (e2 vMod (eArgs vInt (aCons (eVar 3) aNil)) (e2 vIx (eVar 1) (eVar 4))))
    m__law_parts_ca_1) (sSeq (sSet 5 (e2 vMod (eArgs vInt (aCons (e2 vAdd (e2 vAdd (e2 vMul (eVar 0) (eC (.int 48271))) (e2 vMul (eVar 4) (eC (.int 69621)))) (eC (.int 11))) aNil)) (eC (.int 2147483647))))
    m__law_parts_cae_1))
def m__law_parts_c_F : ST := (sFor (iRange1 (eArgs vLen (aCons (eVar 1) aNil))) (pName 4) m__law_parts_c_L)
def m__law_parts_4 : ST := (sRet (eVar 2))
def m__law_parts_3 : ST := (sSeq (sFreeze 2) m__law_parts_4)
def m__law_parts_2 : ST := (sSeq m__law_parts_c_F
    m__law_parts_3)
def m__law_parts_1 : ST := (sSeq (sSet 3 (e2 vSub (eVar 0) (e2 vPow (eC (.int 10)) (eC (.int 18)))))
    m__law_parts_2)
def m__law_parts : ST := (sSeq (sOwn 2 (eArgs vLst aNil))
    m__law_parts_1)
def f__law_parts : Fn := defn 2 6 m__law_parts
def m_check_bits_b_L : ST := (sIf (bAnd (bVal (e2 vNe (eVar 2) (eC (.int 0)))) (bVal (e2 vNe (eVar 2) (eC (.int 1))))) (sRaise ⟨"InvalidValues", []⟩) sNext)
def m_check_bits_b_F : ST := (sFor (iSeq (eVar 0)) (pName 2) m_check_bits_b_L)
def m_check_bits : ST := (sSeq (sIf (bVal (e2 vNe (eArgs vLen (aCons (eVar 0) aNil)) (eVar 1))) (sRaise ⟨"InvalidValues", []⟩) sNext)
    m_check_bits_b_F)
def f_check_bits : Fn := defn 2 3 m_check_bits
def m__law_bits_b_1 : ST := (sSet 0 (e2 vDiv (eVar 0) (eC (.int 2))))
def m__law_bits_b_L : ST := (sSeq (sAppend 2 (e2 vMod (eArgs vInt (aCons (eVar 0) aNil)) (eC (.int 2))))
    m__law_bits_b_1)
def m__law_bits_b_F : ST := (sFor (iRange1 (eVar 1)) (pName 3) m__law_bits_b_L)
def m__law_bits_3 : ST := (sRet (eVar 2))
def m__law_bits_2 : ST := (sSeq (sFreeze 2) m__law_bits_3)
def m__law_bits_1 : ST := (sSeq m__law_bits_b_F
    m__law_bits_2)
def m__law_bits : ST := (sSeq (sOwn 2 (eArgs vLst aNil))
    m__law_bits_1)
def f__law_bits : Fn := defn 2 4 m__law_bits
def m__law_is_integer : ST := (sRet (eAnd (e1 (vIsi .int) (eVar 0)) (eNot (e1 (vIsi .bool) (eVar 0)))))
def f__law_is_integer : Fn := defn 1 1 m__law_is_integer
end Lib
end Vm
end
noncomputable section
namespace Vm
local macro_rules | `(tactic| simp! [$ts,*]) => `(tactic| simp only [Ok_seq, OkM_seq, OkM_next, OkM_ret, OkM_exc, OkM_brk, OkM_cont, OkM_bind, OkM_cond, OkM_ite, RS.bind_ok, RS.bind_exc, RS.bind_bad, Res.flow_exc, Flow.bind_exc, RS.flow_ok, RS.flow_exc, RS.flow_bad, Res.rs_ok, Res.rs_exc, Res.rs_bad, RSflow_ite, RSbind_ite, RSflow_cond, RSbind_cond, rs_ite, rs_cond, mH, mN, mNil, mCons, mLst, mTup, m1, m2, mIf, mAnd, mOr, mNot, mFn, mArgs, bmP, bmV, bmT, bmAnd, bmOr, bmNot, sSetM, sDropM, sRetM, sIfM, sRaise, sSet, sSetN, sOwn, sOwnN, sAppend, sAppendN, sFreeze, sForget, sIf, sRet, sRetN, sNext, sPut, sDrop, sAug, sOn, sItem, sItemN, itemPut, sBreak, sCont, hide, Slot.hide, eVar, eC, e1, e2, eArgs, eAnd, eOr, eNot, eIf, eChain, eCall, eCut, partOf, aNil, aCons, asBl, bVal, bTruth, bAnd, bOr, bNot, bYes, truth, vAdd_int, vAdd_lst, vAdd_tup, vSub, vMul_int, vDiv_int, vMod_int, vPow18, vPow12, vPow11, vPow9, vPow6, vNeg, vLt, vLe, vGt, vGe, vEq, vNe, eqR_int, eqR_bl, eqR_str, vIsi, Val.isOb, vTup, vLst, vLen_lst, vLen_tup, vInt, vIs, vIsNot, vIx_lst, vIx_tup, vIx_dct, vListOf, vTupOf, vIpAdd, vMax2, vMax3, vMin2, Val.ty, Ty.sub, noLst_int, noLst_bl, noLst_str, noLst_non, noLst_tup, noLsts_nil, noLsts_cons, noLsts_ints, pName, pTup, pTupL, putAll, iSeq, itemsOf, iRange1, iRange2, DR.res, Res.ofOpt_some, Res.ofOpt_none, Res.bind_ok, Res.bind_exc, Res.bind_bad, Res.nx_ok, Res.flow_ok, Res.flow_bad, Flow.bind_next, Flow.bind_ret, Flow.bind_brk, Flow.bind_cont, Flow.bind_bad, Ok_next, Ok_ret, Ok_brk, Ok_cont, Ok_bind, Ok_cond, Ok_ite, Ok_ofOpt, flow_ite, bind_ite, nx_ite', flow_cond, bind_cond, cond_andV, cond_orV, cond_and, cond_or, atI_nat, atI_0, atI_1, atI_lit, startE, List.map_cons, List.map_nil, List.length_cons, List.length_nil, List.getElem?_cons_zero, List.getElem?_cons_succ, List.set_cons_zero, List.set_cons_succ, List.set_nil, List.replicate, List.append_nil, List.cons_append, List.nil_append, Nat.sub_self, Nat.reduceAdd, Nat.reduceSub, Nat.reduceLT, Nat.reduceLeDiff, Nat.reduceEqDiff, Int.reduceLE, Int.reduceLT, Int.reduceToNat, Int.reducePow, Int.reduceMul, Int.reduceAdd, Int.reduceSub, Int.reduceNeg, Int.cast_ofNat_Int, if_true, if_false, ↓reduceIte, reduceCtorEq, beq_self_eq_true, and_true, true_and, decide_eq_true_eq, decide_eq_false_iff_not, Bool.not_eq_true', Bool.not_eq_false', Bool.and_true, Bool.true_and, Bool.or_true, Bool.and_false, Bool.or_false, Bool.false_or, Bool.true_or, Bool.false_and, Bool.not_true, Bool.not_false, beq_iff_eq, forall_const, false_implies, Option.map_some, decide_true, decide_false, cond_true, cond_false, $ts,*])
def bv (b : Bool) : Val := .int (b2i b)
theorem bv_f : bv false = .int 0 := rfl
theorem bv_t : bv true = .int 1 := rfl
theorem intsOf_map : ∀ ns : List Int, intsOf (ns.map Val.int) = some ns
  | [] => rfl
  | b :: bs => by show (intsOf (bs.map Val.int)).map (b :: ·) = _; rw [intsOf_map bs]; rfl
/-- a walk, by what is left of it -/
theorem forL_ind {α : Type} {put : Put} {body : ST} {N : Env → Prop} {R : Val → Prop} {B T : Env → Prop} (enc : α → Val) (P : List α → Env → Prop)
    (hs : ∀ x xs env, P (x :: xs) env → ∃ e, put (enc x) env = .ok e ∧ Ok (body e) (P xs) R N (P xs)) (hN : ∀ env, P [] env → N env) : ∀ (xs : List α) (env : Env), P xs env → Ok (forL put body (xs.map enc) env) N R B T
  | [], env, h => ⟨hN env h⟩
  | x :: xs, env, h => by
    obtain ⟨e, he, hb⟩ := hs x xs env h
    rw [List.map_cons]
    unfold forL
    rw [he]
    simp only [Res.nx_ok, Res.flow_ok]
    have tl : ∀ e', P xs e' → Ok (forL put body (xs.map enc) e') N R B T := fun e' h' => forL_ind enc P hs hN xs e' h'
    have hb := hb.of
    cases hq : body e with
    | next e' => rw [hq] at hb; exact tl e' hb
    | cont e' => rw [hq] at hb; exact tl e' hb
    | brk e' => rw [hq] at hb; exact ⟨hb⟩
    | ret v => rw [hq] at hb; exact ⟨hb⟩
    | exc q e' => rw [hq] at hb; exact ⟨hb⟩
    | bad => rw [hq] at hb; exact ⟨hb⟩
structure Cell where
  k : Str
  ins : List Nat
  out : Nat
def iv (n : Nat) : Val := .int (n : Int)
def Cell.v (c : Cell) : Val := .tup [.str c.k, .tup (c.ins.map iv), iv c.out]
structure Circ where
  n : Nat
  cells : List Cell
  outs : List Nat
  lat : List Nat
def Circ.v (c : Circ) : Val := .tup [iv c.n, .tup (c.cells.map Cell.v), .tup (c.outs.map iv), .tup (c.lat.map iv)]
namespace Lib
open PySem
/-- bits, as many as wanted -/
theorem check_ok (bs : List Bool) (n : Int) (hn : n = bs.length) (hl : bs.length ≤ 16777216) : f_check_bits [.lst (bs.map bv), .int n] = .ret .non := by
  subst hn
  refine defn_ret rfl ?_
  unfold m_check_bits
  simp! [List.length_map, Int.reduceBEq]
  refine Then.mk ?_
  unfold m_check_bits_b_F
  refine Ok_for (xs := bs.map bv) (by simp! []) ?_
  refine forL_ind bv (fun _ env => ∃ s2, env = [.sh (.lst (bs.map bv)), .sh (.int bs.length), s2]) ?_ (fun _ _ => trivial) bs _ ⟨_, rfl⟩
  rintro b bs' env ⟨s2, rfl⟩
  refine ⟨_, rfl, ?_⟩
  unfold m_check_bits_b_L
  cases b
  · simp! [bv_f, Int.reduceBEq]
    exact ⟨_, rfl⟩
  · simp! [bv_t, Int.reduceBEq]
    exact ⟨_, rfl⟩
def badVals : Exn := ⟨"InvalidValues", []⟩
theorem check_exc (ws : List Int) (n : Int) (h : ¬ ((ws.length : Int) = n ∧ ∀ w ∈ ws, w = 0 ∨ w = 1)) : f_check_bits [.lst (ws.map .int), .int n] = .exc badVals := by
  have key : ∃ e, m_check_bits (startE 3 [.lst (ws.map .int), .int n]) = .exc badVals e := by
    unfold m_check_bits sSeq
    by_cases hn : (ws.length : Int) = n
    · have hb : ¬ ∀ w ∈ ws, w = 0 ∨ w = 1 := fun z => h ⟨hn, z⟩
      have e1 : (sIf (bVal (e2 vNe (eArgs vLen (aCons (eVar 0) aNil)) (eVar 1))) (sRaise ⟨"InvalidValues", []⟩) sNext) (startE 3 [.lst (ws.map .int), .int n]) = .next (startE 3 [.lst (ws.map .int), .int n]) := by
        have : ((ws.length : Int) == n) = true := by rw [beq_iff_eq]; exact hn
        simp! [List.length_map, this]
      rw [e1]
      show ∃ e, m_check_bits_b_F (startE 3 [.lst (ws.map .int), .int n]) = .exc badVals e
      unfold m_check_bits_b_F sFor
      have e2 : (iSeq (eVar 0)) (hide (startE 3 [.lst (ws.map .int), .int n])) = .ok (ws.map .int) := rfl
      rw [e2]
      show ∃ e, forL (pName 2) m_check_bits_b_L (ws.map .int) (startE 3 [.lst (ws.map .int), .int n]) = .exc badVals e
      have gen : ∀ (us : List Int) (x y : Val) (s : Slot), (¬ ∀ w ∈ us, w = 0 ∨ w = 1) → ∃ e, forL (pName 2) m_check_bits_b_L (us.map .int) [.sh x, .sh y, s] = .exc badVals e := by
        intro us
        induction us with
        | nil => intro x y s h; exact absurd (fun w hw => by cases hw) h
        | cons u us ih =>
          intro x y s h
          by_cases hu : u = 0 ∨ u = 1
          · have st : m_check_bits_b_L [.sh x, .sh y, .sh (.int u)] = .next [.sh x, .sh y, .sh (.int u)] := by
              unfold m_check_bits_b_L
              rcases hu with rfl | rfl
              · simp! [Int.reduceBEq]
              · simp! [Int.reduceBEq]
            have : forL (pName 2) m_check_bits_b_L ((u :: us).map .int) [.sh x, .sh y, s] = forL (pName 2) m_check_bits_b_L (us.map .int) [.sh x, .sh y, .sh (.int u)] := by
              show (match m_check_bits_b_L [.sh x, .sh y, .sh (.int u)] with
                | .next e' => forL (pName 2) m_check_bits_b_L (us.map .int) e'
                | .cont e' => forL (pName 2) m_check_bits_b_L (us.map .int) e'
                | .brk e' => .next e'
                | .ret v e' => .ret v e'
                | .exc q e' => .exc q e'
                | .bad => .bad) = _
              rw [st]
            rw [this]
            refine ih _ _ _ fun z => h fun w hw => ?_
            rcases List.mem_cons.mp hw with rfl | hw
            · exact hu
            · exact z w hw
          · have st : m_check_bits_b_L [.sh x, .sh y, .sh (.int u)] = .exc badVals [.sh x, .sh y, .sh (.int u)] := by
              unfold m_check_bits_b_L
              have h0 : (u == 0) = false := by rw [beq_eq_false_iff_ne]; omega
              have h1 : (u == 1) = false := by rw [beq_eq_false_iff_ne]; omega
              simp! [h0, h1]
              rfl
            refine ⟨[.sh x, .sh y, .sh (.int u)], ?_⟩
            show (match m_check_bits_b_L [.sh x, .sh y, .sh (.int u)] with
                | .next e' => forL (pName 2) m_check_bits_b_L (us.map .int) e'
                | .cont e' => forL (pName 2) m_check_bits_b_L (us.map .int) e'
                | .brk e' => .next e'
                | .ret v e' => .ret v e'
                | .exc q e' => .exc q e'
                | .bad => .bad) = _
            rw [st]
      exact gen ws _ _ _ hb
    · have e1 : (sIf (bVal (e2 vNe (eArgs vLen (aCons (eVar 0) aNil)) (eVar 1))) (sRaise ⟨"InvalidValues", []⟩) sNext) (startE 3 [.lst (ws.map .int), .int n]) = .exc badVals (startE 3 [.lst (ws.map .int), .int n]) := by
        have : ((ws.length : Int) == n) = false := by rw [beq_eq_false_iff_ne]; exact hn
        simp! [List.length_map, this]
        rfl
      rw [e1]
      exact ⟨_, rfl⟩
  obtain ⟨e, he⟩ := key
  show (if [Val.lst (ws.map .int), .int n].length = 2 then (match m_check_bits (startE 3 [.lst (ws.map .int), .int n]) with
    | .next _ => DR.ret .non
    | .ret x _ => .ret x
    | .exc e _ => .exc e
    | _ => .bad) else .bad) = _
  rw [he]
  rfl
end Lib
end Vm
end
noncomputable section
namespace Vm
namespace Lib
open PySem
end Lib
end Vm
end
noncomputable section
namespace Vm
local macro_rules | `(tactic| simp! [$ts,*]) => `(tactic| simp only [Ok_seq, OkM_seq, OkM_next, OkM_ret, OkM_exc, OkM_brk, OkM_cont, OkM_bind, OkM_cond, OkM_ite, RS.bind_ok, RS.bind_exc, RS.bind_bad, Res.flow_exc, Flow.bind_exc, RS.flow_ok, RS.flow_exc, RS.flow_bad, Res.rs_ok, Res.rs_exc, Res.rs_bad, RSflow_ite, RSbind_ite, RSflow_cond, RSbind_cond, rs_ite, rs_cond, mH, mN, mNil, mCons, mLst, mTup, m1, m2, mIf, mAnd, mOr, mNot, mFn, mArgs, bmP, bmV, bmT, bmAnd, bmOr, bmNot, sSetM, sDropM, sRetM, sIfM, sRaise, sSet, sSetN, sOwn, sOwnN, sAppend, sAppendN, sFreeze, sForget, sIf, sRet, sRetN, sNext, sPut, sDrop, sAug, sOn, sItem, sItemN, itemPut, sBreak, sCont, hide, Slot.hide, eVar, eC, e1, e2, eArgs, eAnd, eOr, eNot, eIf, eChain, eCall, eCut, partOf, aNil, aCons, asBl, bVal, bTruth, bAnd, bOr, bNot, bYes, truth, vAdd_int, vAdd_lst, vAdd_tup, vSub, vMul_int, vDiv_int, vMod_int, vPow18, vPow12, vPow11, vPow9, vPow6, vNeg, vLt, vLe, vGt, vGe, vEq, vNe, eqR_int, eqR_bl, eqR_str, vIsi, Val.isOb, vTup, vLst, vLen_lst, vLen_tup, vInt, vIs, vIsNot, vIx_lst, vIx_tup, vIx_dct, vListOf, vTupOf, vIpAdd, vMax2, vMax3, vMin2, Val.ty, Ty.sub, noLst_int, noLst_bl, noLst_str, noLst_non, noLst_tup, noLsts_nil, noLsts_cons, noLsts_ints, pName, pTup, pTupL, putAll, iSeq, itemsOf, iRange1, iRange2, DR.res, Res.ofOpt_some, Res.ofOpt_none, Res.bind_ok, Res.bind_exc, Res.bind_bad, Res.nx_ok, Res.flow_ok, Res.flow_bad, Flow.bind_next, Flow.bind_ret, Flow.bind_brk, Flow.bind_cont, Flow.bind_bad, Ok_next, Ok_ret, Ok_brk, Ok_cont, Ok_bind, Ok_cond, Ok_ite, Ok_ofOpt, flow_ite, bind_ite, nx_ite', flow_cond, bind_cond, cond_andV, cond_orV, cond_and, cond_or, atI_nat, atI_0, atI_1, atI_lit, startE, List.map_cons, List.map_nil, List.length_cons, List.length_nil, List.getElem?_cons_zero, List.getElem?_cons_succ, List.set_cons_zero, List.set_cons_succ, List.set_nil, List.replicate, List.append_nil, List.cons_append, List.nil_append, Nat.sub_self, Nat.reduceAdd, Nat.reduceSub, Nat.reduceLT, Nat.reduceLeDiff, Nat.reduceEqDiff, Int.reduceLE, Int.reduceLT, Int.reduceToNat, Int.reducePow, Int.reduceMul, Int.reduceAdd, Int.reduceSub, Int.reduceNeg, Int.cast_ofNat_Int, if_true, if_false, ↓reduceIte, reduceCtorEq, beq_self_eq_true, and_true, true_and, decide_eq_true_eq, decide_eq_false_iff_not, Bool.not_eq_true', Bool.not_eq_false', Bool.and_true, Bool.true_and, Bool.or_true, Bool.and_false, Bool.or_false, Bool.false_or, Bool.true_or, Bool.false_and, Bool.not_true, Bool.not_false, beq_iff_eq, forall_const, false_implies, Option.map_some, decide_true, decide_false, cond_true, cond_false, $ts,*])
open PySem
abbrev Nd := List Key
instance ndBEq : BEq Nd := ⟨fun a b => decide (a = b)⟩
instance ndLaw : LawfulBEq Nd where
  eq_of_beq := fun h => of_decide_eq_true h
  rfl := fun {a} => decide_eq_true (rfl : a = a)
def ndV (k : Nd) : Val := .tup (k.map kVal)
def numsT : Nat → List Nd → List (List Key × Tr)
  | _, [] => []
  | n, k :: r => (k, .v (.int (n : Int))) :: numsT (n + 1) r
def numsV : Nat → List Nd → List (List Key × Val)
  | _, [] => []
  | n, k :: r => (k, .int (n : Int)) :: numsV (n + 1) r
structure NT where
  ns : List Nd
  ic : Nat
  lc : Nat
def NT.tr (s : NT) : Tr := .o "NodeTable" [("_nodes", .l (s.ns.map fun k => .v (ndV k))), ("_numbers", .dT (numsT 0 s.ns)), ("_input_count", .v (.int s.ic)), ("_latch_count", .v (.int s.lc))]
def NT.v (s : NT) : Val := .ob "NodeTable" [("_nodes", .lst (s.ns.map ndV)), ("_numbers", .dcT (numsV 0 s.ns)), ("_input_count", .int s.ic), ("_latch_count", .int s.lc)]
theorem vals_map {α : Type} (f : α → Val) : ∀ l : List α, Tr.vals (l.map fun k => .v (f k)) = l.map f
  | [] => rfl
  | x :: l => congrArg (f x :: ·) (vals_map f l)
theorem numsT_val : ∀ (l : List Nd) (n : Nat), Tr.valsT (numsT n l) = numsV n l
  | [], _ => rfl
  | k :: l, n => congrArg ((k, Val.int (n : Int)) :: ·) (numsT_val l (n + 1))
theorem NT.tr_val (s : NT) : s.tr.val = s.v := by
  show Val.ob _ [("_nodes", .lst (Tr.vals _)), ("_numbers", .dcT (Tr.valsT _)), _, _] = _
  rw [vals_map, numsT_val]
  rfl
theorem keysL_kVal : ∀ k : Nd, keysL (k.map kVal) = some k
  | [] => rfl
  | .inl i :: k => by
    show (keysL (k.map kVal)).map (Sum.inl i :: ·) = _
    rw [keysL_kVal k]; rfl
  | .inr s :: k => by
    show (keysL (k.map kVal)).map (Sum.inr s :: ·) = _
    rw [keysL_kVal k]; rfl
theorem keysOf_ndV (k : Nd) : keysOf (ndV k) = some k := keysL_kVal k
theorem numsV_get : ∀ (l : List Nd) (n : Nat) (k : Nd), getK (numsV n l) k = if k ∈ l then some (.int ((n + l.idxOf k : Nat) : Int)) else none
  | [], n, k => rfl
  | x :: l, n, k => by
    have ih := numsV_get l (n + 1) k
    by_cases h : x = k
    · subst h
      simp [getK, numsV, List.find?_cons, List.idxOf_cons]
    · have e : getK (numsV n (x :: l)) k = getK (numsV (n + 1) l) k := by simp [getK, numsV, List.find?_cons, h]
      rw [e, ih]
      have h' : ¬ k = x := fun z => h z.symm
      by_cases hk : k ∈ l
      · rw [if_pos hk, if_pos (List.mem_cons_of_mem _ hk), List.idxOf_cons]
        have : (x == k) = false := by simpa using h
        rw [this]
        simp only [cond_false]
        congr 3
        omega
      · rw [if_neg hk, if_neg (by simp [h', hk])]
theorem numsT_any : ∀ (l : List Nd) (n : Nat) (k : Nd), ((numsT n l).any fun kv => decide (kv.1 = k)) = decide (k ∈ l)
  | [], _, _ => by simp [numsT]
  | x :: l, n, k => by
    show (decide (x = k) || ((numsT (n + 1) l).any _)) = _
    rw [numsT_any l (n + 1) k, Bool.eq_iff_iff]
    simp only [Bool.or_eq_true, decide_eq_true_eq, List.mem_cons]
    constructor
    · rintro (h | h)
      · exact .inl h.symm
      · exact .inr h
    · rintro (h | h)
      · exact .inl h.symm
      · exact .inr h
theorem numsT_snoc : ∀ (l : List Nd) (n : Nat) (k : Nd), numsT n l ++ [(k, .v (.int ((n + l.length : Nat) : Int)))] = numsT n (l ++ [k])
  | [], n, k => by simp [numsT]
  | x :: l, n, k => by
    show (x, _) :: (numsT (n + 1) l ++ _) = (x, _) :: numsT (n + 1) (l ++ [k])
    rw [← numsT_snoc l (n + 1) k]
    have e : n + (x :: l).length = n + 1 + l.length := by simp only [List.length_cons]; omega
    rw [e]
theorem numsT_len : ∀ (l : List Nd) (n : Nat), (numsT n l).length = l.length
  | [], _ => rfl
  | _ :: l, n => congrArg (· + 1) (numsT_len l (n + 1))
def ndGood (k : Nd) : Prop := st_NodeTable k = false
/-- a good list of nodes -/
structure WFn (ns : List Nd) : Prop where
  nd : ns.Nodup
  gd : ∀ k ∈ ns, ndGood k
  nt : ∀ (i : Nat) (r : List Key), ns[i]? = some (.inr "not" :: r) → ∃ y : Nat, r = [.inl (y : Int)] ∧ y < i
def NT.put (s : NT) (l : List Nd) : NT := { s with ns := l }
namespace Lib
def notArg (k : Nd) : Option Int := match k with
  | .inr s :: .inl y :: _ => if s = "not" then some y else none
  | _ => none
theorem rangeL_nv (n : Nat) : rangeL 0 n = (List.range n).map iv := by
  unfold rangeL
  apply List.map_congr_left
  intro k _
  show Val.int _ = Val.int _
  congr 1
  omega
end Lib
end Vm
end
noncomputable section
namespace Vm
open PySem
theorem aCons_ok {a : EX} {r : EL} {env : Env} {x : Val} {xs : List Val} (h1 : a env = .ok x) (h2 : r env = .ok xs) : aCons a r env = .ok (x :: xs) := by
  unfold aCons
  rw [h1]
  show (r env).bind _ = _
  rw [h2]
  rfl
theorem eCall_ok {f : Fn} {r : EL} {env : Env} {xs : List Val} {y : Val} (h : r env = .ok xs) (hf : f xs = .ret y) : eCall f r env = .ok y := by
  unfold eCall
  rw [h]
  show (f xs).res = _
  rw [hf]
  rfl
theorem mCall0_ret {f : MFn} {args : AM} {t t' : Tr} {r : Env} {xs : List Val} {y : Val} (ha : args (.me t :: r) = .ok xs (.me t :: r)) (hf : f t xs = .ret y t') : mCall 0 f args (.me t :: r) = .ok y (.me t' :: r) := by
  show ((args (.me t :: r)).bind fun xs e => mApp f 0 [] xs e) = _
  rw [ha]
  show (match f t xs with
    | .ret y' t' => (match putPl (.me t :: r) 0 [] t' with
      | .next e' => RS.ok y' e'
      | _ => .bad)
    | .exc q t' => (match putPl (.me t :: r) 0 [] t' with
      | .next e' => .exc q e'
      | _ => .bad)
    | .bad => .bad) = _
  rw [hf]
  rfl
theorem mCall0_exc {f : MFn} {args : AM} {t t' : Tr} {r : Env} {xs : List Val} {q : Exn} (ha : args (.me t :: r) = .ok xs (.me t :: r)) (hf : f t xs = .exc q t') : mCall 0 f args (.me t :: r) = .exc q (.me t' :: r) := by
  show ((args (.me t :: r)).bind fun xs e => mApp f 0 [] xs e) = _
  rw [ha]
  show (match f t xs with
    | .ret y' t' => (match putPl (.me t :: r) 0 [] t' with
      | .next e' => RS.ok y' e'
      | _ => .bad)
    | .exc q t' => (match putPl (.me t :: r) 0 [] t' with
      | .next e' => .exc q e'
      | _ => .bad)
    | .bad => .bad) = _
  rw [hf]
  rfl
theorem mMeth0_ret {c m : Str} {f : MFn} {args : AM} {t t' : Tr} {r : Env} {xs : List Val} {y : Val} (ho : isO c m (some t) = true) (ha : args (.me t :: r) = .ok xs (.me t :: r)) (hf : f t xs = .ret y t') : mMeth c m 0 f args (.me t :: r) = .ok y (.me t' :: r) := by
  show (if isO c m (some t) = true then (args (.me t :: r)).bind fun xs e => mApp f 0 [] xs e else .bad) = _
  rw [if_pos ho]
  exact mCall0_ret ha hf
theorem mMeth0_exc {c m : Str} {f : MFn} {args : AM} {t t' : Tr} {r : Env} {xs : List Val} {q : Exn} (ho : isO c m (some t) = true) (ha : args (.me t :: r) = .ok xs (.me t :: r)) (hf : f t xs = .exc q t') : mMeth c m 0 f args (.me t :: r) = .exc q (.me t' :: r) := by
  show (if isO c m (some t) = true then (args (.me t :: r)).bind fun xs e => mApp f 0 [] xs e else .bad) = _
  rw [if_pos ho]
  exact mCall0_exc ha hf
theorem sSet_ok {i : Nat} {a : EX} {env : Env} {x : Val} (h : a (hide env) = .ok x) (hl : i < env.length) : sSet i a env = .next (env.set i (.sh x)) := by
  unfold sSet
  rw [h]
  show (if i < env.length then _ else _) = _
  rw [if_pos hl]
theorem sIf_no {t : EB} {a b : ST} {env : Env} (h : t env = .ok false) : sIf t a b env = b env := by
  unfold sIf
  rw [h]
  rfl
theorem sIf_yes {t : EB} {a b : ST} {env : Env} (h : t env = .ok true) : sIf t a b env = a env := by
  unfold sIf
  rw [h]
  rfl
theorem sDrop_ok {a : EX} {env : Env} {x : Val} (h : a env = .ok x) : sDrop a env = .next env := by
  unfold sDrop
  rw [h]
  rfl
theorem sDrop_exc {a : EX} {env : Env} {q : Exn} (h : a env = .exc q) : sDrop a env = .exc q env := by
  unfold sDrop
  rw [h]
  rfl
theorem bVal_ok {a : EX} {env : Env} {b : Bool} (h : a env = .ok (.bl b)) : bVal a env = .ok b := by
  unfold bVal
  rw [h]
  rfl
theorem bTruth_ok {a : EX} {env : Env} {b : Bool} (h : a env = .ok (.bl b)) : bTruth a env = .ok b := by
  unfold bTruth
  rw [h]
  rfl
theorem bNot_ok {a : EB} {env : Env} {b : Bool} (h : a env = .ok b) : bNot a env = .ok (!b) := by
  unfold bNot
  rw [h]
  rfl
theorem bOr_no {a b : EB} {env : Env} (h : a env = .ok false) (h2 : b env = .ok false) : bOr a b env = .ok false := by
  unfold bOr
  rw [h]
  exact h2
theorem e2_ok {f : Val → Val → Res Val} {a b : EX} {env : Env} {x y z : Val} (h : a env = .ok x) (h2 : b env = .ok y) (h3 : f x y = .ok z) : Vm.e2 f a b env = .ok z := by
  unfold Vm.e2
  rw [h]
  show (b env).bind _ = _
  rw [h2]
  exact h3
theorem seqIf_no {t : EB} {A B : ST} {env : Env} (h : t env = .ok false) : sSeq (sIf t A sNext) B env = B env := by
  show (sIf t A sNext env).bind B = _
  rw [sIf_no h]
  rfl
theorem seqIf_ret {t : EB} {A B : ST} {env e : Env} {x : Val} (h : t env = .ok true) (hr : A env = .ret x e) : sSeq (sIf t A sNext) B env = .ret x e := by
  show (sIf t A sNext env).bind B = _
  rw [sIf_yes h, hr]
  rfl
theorem seq_ok {A B : ST} {env e : Env} (h : A env = .next e) : sSeq A B env = B e := by
  show (A env).bind B = _
  rw [h]
  rfl
theorem seq_exc {A B : ST} {env e : Env} {q : Exn} (h : A env = .exc q e) : sSeq A B env = .exc q e := by
  show (A env).bind B = _
  rw [h]
  rfl
theorem sRetM_ok {a : EM} {env e : Env} {x : Val} (h : a env = .ok x e) : sRetM a env = .ret x e := by
  unfold sRetM
  rw [h]
  rfl
theorem sRet_ok {a : EX} {env : Env} {x : Val} (h : a env = .ok x) : sRet a env = .ret x env := by
  unfold sRet
  rw [h]
  rfl
theorem sSetN_ok {i : Nat} {a : EX} {env : Env} {x : Val} (h : a env = .ok x) (hl : i < env.length) (hn : x.noLst = true) : sSetN i a env = .next (env.set i (.sh x)) := by
  unfold sSetN
  rw [h]
  show (if i < env.length ∧ x.noLst = true then _ else _) = _
  rw [if_pos ⟨hl, hn⟩]
theorem eqI {a b : EX} {env : Env} {i j : Int} (ha : a env = .ok (.int i)) (hb : b env = .ok (.int j)) : bVal (Vm.e2 vEq a b) env = .ok (decide (i = j)) := by
  refine bVal_ok (e2_ok ha hb ?_)
  unfold vEq
  rw [eqR_int]
  show Res.ok (Val.bl (i == j)) = _
  rw [show (i == j) = decide (i = j) by rw [Bool.eq_iff_iff]; simp]
theorem neI {a b : EX} {env : Env} {i j : Int} (ha : a env = .ok (.int i)) (hb : b env = .ok (.int j)) : Vm.e2 vNe a b env = .ok (.bl (decide (i ≠ j))) := by
  refine e2_ok ha hb ?_
  unfold vNe
  rw [eqR_int]
  show Res.ok (Val.bl (!(i == j))) = _
  rw [show (!(i == j)) = decide (i ≠ j) by rw [Bool.eq_iff_iff]; simp]
theorem bOr_ok {a b : EB} {env : Env} {x y : Bool} (h : a env = .ok x) (h2 : b env = .ok y) : bOr a b env = .ok (x || y) := by
  unfold bOr
  rw [h]
  show (bif x then Res.ok true else b env) = _
  rw [h2]
  cases x <;> rfl
theorem mArg1 {a : EX} {env : Env} {x : Val} (h : a (hide env) = .ok x) : mCons (mH a) mNil env = .ok [x] env := by
  unfold mCons mH
  rw [h]
  rfl
theorem mMeth0_chain {c m : Str} {f : MFn} {args : AM} {t t1 t' : Tr} {r : Env} {xs : List Val} {y : Val} (ho : isO c m (some t) = true) (ha : args (.me t :: r) = .ok xs (.me t1 :: r)) (hf : f t1 xs = .ret y t') : mMeth c m 0 f args (.me t :: r) = .ok y (.me t' :: r) := by
  show (if isO c m (some t) = true then (args (.me t :: r)).bind fun xs e => mApp f 0 [] xs e else .bad) = _
  rw [if_pos ho, ha]
  show (match f t1 xs with
    | .ret y' t' => (match putPl (.me t1 :: r) 0 [] t' with
      | .next e' => RS.ok y' e'
      | _ => .bad)
    | .exc q t' => (match putPl (.me t1 :: r) 0 [] t' with
      | .next e' => .exc q e'
      | _ => .bad)
    | .bad => .bad) = _
  rw [hf]
  rfl
theorem mCons_ok {a : EM} {r : AM} {env e1 e2 : Env} {x : Val} {xs : List Val} (h : a env = .ok x e1) (h2 : r e1 = .ok xs e2) : mCons a r env = .ok (x :: xs) e2 := by
  unfold mCons
  rw [h]
  show (r e1).bind _ = _
  rw [h2]
  rfl
theorem mH_ok {a : EX} {env : Env} {x : Val} (h : a (hide env) = .ok x) : mH a env = .ok x env := by
  unfold mH
  rw [h]
  rfl
theorem defnM_retE {k n : Nat} {m : ST} {t t' : Tr} {xs : List Val} {y : Val} (hk : xs.length = k) (hy : y.noLst = true) (h : ∃ e, m (startM n t xs) = .ret y e ∧ meOf e = some t') : defnM k n m t xs = .ret y t' := by
  obtain ⟨e, h1, h2⟩ := h
  refine defnM_retM hk hy ?_
  rw [h1, OkM_ret]
  exact ⟨rfl, h2⟩
theorem defnM_excE {k n : Nat} {m : ST} {t t' : Tr} {xs : List Val} {q : Exn} (hk : xs.length = k) (h : ∃ e, m (startM n t xs) = .exc q e ∧ meOf e = some t') : defnM k n m t xs = .exc q t' := by
  obtain ⟨e, h1, h2⟩ := h
  refine defnM_excM hk ?_
  rw [h1, OkM_exc]
  exact ⟨rfl, h2⟩
theorem forL_next {put : Put} {body : ST} {x : Val} {xs : List Val} {env e e' : Env} (hp : put x env = .ok e) (hb : body e = .next e') : forL put body (x :: xs) env = forL put body xs e' := by
  show ((put x env).nx.flow env fun e => match body e with
    | .next e' => forL put body xs e'
    | .cont e' => forL put body xs e'
    | .brk e' => .next e'
    | .ret v e' => .ret v e'
    | .exc q e' => .exc q e'
    | .bad => .bad) = _
  rw [hp]
  show (match body e with
    | .next e' => forL put body xs e'
    | .cont e' => forL put body xs e'
    | .brk e' => .next e'
    | .ret v e' => .ret v e'
    | .exc q e' => .exc q e'
    | .bad => .bad) = _
  rw [hb]
theorem sOwnN_ok {i : Nat} {a : EX} {env : Env} {xs : List Val} (h : a env = .ok (.lst xs)) (hl : i < env.length) (hn : Val.noLsts xs = true) : sOwnN i a env = .next (env.set i (.oL xs)) := by
  unfold sOwnN
  rw [h]
  show (if i < env.length ∧ Val.noLsts xs = true then _ else _) = _
  rw [if_pos ⟨hl, hn⟩]
theorem cutTo_ok {a e : EX} {env : Env} {xs : List Val} {m : Int} (ha : a env = .ok (.lst xs)) (he : e env = .ok (.int m)) : eCut a none (some e) env = .ok (.lst (cut xs none (some m))) := by
  have h : partOf (some e) env = .ok (some m) := by
    show (e env).bind _ = _
    rw [he]
    rfl
  unfold eCut
  rw [ha]
  show ((partOf (some e) env).bind fun h => vCut (.lst xs) none h) = _
  rw [h]
  rfl
end Vm
end
noncomputable section
namespace Vm
open PySem
section
variable {N : Env → Prop} {R : Val → Prop} {B T : Env → Prop} {env : Env} {k : ST}
theorem go_last {s : ST} (h : Ok (sSeq s sNext env) N R B T) : Ok (s env) N R B T := by
  have e : sSeq s sNext env = s env := by
    show (s env).bind sNext = s env
    cases s env <;> rfl
  rwa [e] at h
theorem go_end (h : N env) : Ok (sNext env) N R B T := ⟨h⟩
theorem go_next (h : Ok (k env) N R B T) : Ok (sSeq sNext k env) N R B T := h
theorem go_set {i : Nat} {a : EX} {x : Val} (h : a (hide env) = .ok x) (hl : Nat.blt i env.length = true) (hk : Ok (k (env.set i (.sh x))) N R B T) : Ok (sSeq (sSet i a) k env) N R B T := by
  rw [Ok_seq, sSet_ok h (by rw [Nat.blt_eq] at hl; exact hl), Ok_next]
  exact ⟨hk⟩
theorem go_setN {i : Nat} {a : EX} {x : Val} (h : a env = .ok x) (hl : Nat.blt i env.length = true) (hn : x.noLst = true) (hk : Ok (k (env.set i (.sh x))) N R B T) : Ok (sSeq (sSetN i a) k env) N R B T := by
  rw [Ok_seq, sSetN_ok h (by rw [Nat.blt_eq] at hl; exact hl) hn, Ok_next]
  exact ⟨hk⟩
theorem go_if {t : EB} {a b : ST} {c : Bool} (h : t env = .ok c) (h1 : c = true → Ok (sSeq a k env) N R B T) (h2 : c = false → Ok (sSeq b k env) N R B T) : Ok (sSeq (sIf t a b) k env) N R B T := by
  have e : sSeq (sIf t a b) k env = if c then sSeq a k env else sSeq b k env := by
    show ((t env).flow env fun q => bif q then a env else b env).bind k = _
    rw [h]
    cases c <;> rfl
  rw [e]
  cases c with
  | true => exact h1 rfl
  | false => exact h2 rfl
/-- an if without a way out: both ends in P -/
theorem go_ifP {t : EB} {a b : ST} {c : Bool} (P : Env → Prop) (h : t env = .ok c) (h1 : c = true → Ok (a env) P R B T) (h2 : c = false → Ok (b env) P R B T) (hk : ∀ e, P e → Ok (k e) N R B T) : Ok (sSeq (sIf t a b) k env) N R B T := by
  rw [Ok_seq]
  have e : sIf t a b env = if c then a env else b env := by
    show ((t env).flow env fun q => bif q then a env else b env) = _
    rw [h]
    cases c <;> rfl
  rw [e]
  cases c with
  | true => exact (h1 rfl).imp (fun e he => ⟨hk e he⟩) (fun _ h => h) (fun _ h => h) (fun _ h => h)
  | false => exact (h2 rfl).imp (fun e he => ⟨hk e he⟩) (fun _ h => h) (fun _ h => h) (fun _ h => h)
theorem go_ret {a : EX} {x : Val} (h : a env = .ok x) (hR : R x) : Ok (sSeq (sRet a) k env) N R B T := by
  rw [Ok_seq, sRet_ok h, Ok_ret]
  exact hR
theorem go_for {it : EI} {put : Put} {body : ST} {xs : List Val} (P : Env → Prop) (hi : it (hide env) = .ok xs) (h : Ok (forL put body xs env) P R B T) (hk : ∀ e, P e → Ok (k e) N R B T) : Ok (sSeq (sFor it put body) k env) N R B T := by
  rw [Ok_seq]
  exact Ok_for hi (h.imp (fun e he => ⟨hk e he⟩) (fun _ h => h) (fun _ h => h) (fun _ h => h))
end
theorem eArgs_go {f : List Val → Res Val} {r : EL} {env : Env} {xs : List Val} {y : Val} (h : r env = .ok xs) (hf : f xs = .ok y) : eArgs f r env = .ok y := by
  unfold eArgs
  rw [h]
  exact hf
theorem vEq_i (i j : Int) : vEq (.int i) (.int j) = .ok (.bl (decide (i = j))) := by
  show Res.ok (Val.bl (i == j)) = _
  rw [show (i == j) = decide (i = j) by rw [Bool.eq_iff_iff]; simp]
theorem vNe_s (x y : Str) : vNe (.str x) (.str y) = .ok (.bl (decide (x ≠ y))) := by
  show Res.ok (Val.bl (!(x == y))) = _
  rw [show (!(x == y)) = decide (x ≠ y) by rw [Bool.eq_iff_iff]; simp]
theorem vMod_o (i j : Int) (h : 0 < j) : vMod (.int i) (.int j) = .ok (.int (i % j)) := by rw [vMod_int, if_pos h]
theorem forL_range {put : Put} {body : ST} {N R B T} (n : Nat) (I : Nat → Env → Prop) (env : Env) (h0 : I 0 env)
    (hs : ∀ i, i < n → ∀ env, I i env → ∃ e, put (.int (i : Int)) env = .ok e ∧ Ok (body e) (I (i + 1)) R N (I (i + 1))) (hN : ∀ env, I n env → N env) : Ok (forL put body ((List.range n).map fun (k : Nat) => Val.int (k : Int)) env) N R B T := by
  refine forL_ok _ I env h0 ?_ ?_
  · intro i hi env h
    rw [List.length_map, List.length_range] at hi
    rw [List.getElem_map, List.getElem_range]
    exact hs i hi env h
  · intro env h
    rw [List.length_map, List.length_range] at h
    exact hN env h
theorem range_nv (n : Nat) : rangeL 0 n = (List.range n).map fun (k : Nat) => Val.int (k : Int) := by
  unfold rangeL
  refine List.map_congr_left fun k _ => ?_
  rw [Int.zero_add]
theorem iRange_go {a : EX} {env : Env} {n : Nat} (h : a env = .ok (.int (n : Int))) (hn : n ≤ 16777216) : iRange1 a env = .ok ((List.range n).map fun (k : Nat) => Val.int (k : Int)) := by
  rw [← range_nv]
  exact range1_ok h hn
theorem go_range {n : Nat} {a : EX} {put : Put} {body k : ST} {env : Env} {N R B T} (I : Nat → Env → Prop) (ha : a (hide env) = .ok (.int (n : Int))) (hn : n ≤ 16777216) (h0 : I 0 env)
    (hs : ∀ i, i < n → ∀ env, I i env → ∃ e, put (.int (i : Int)) env = .ok e ∧ Ok (body e) (I (i + 1)) R (fun e => Ok (k e) N R B T) (I (i + 1))) (hN : ∀ env, I n env → Ok (k env) N R B T) : Ok (sSeq (sFor (iRange1 a) put body) k env) N R B T :=
  go_for _ (iRange_go ha hn) (forL_range n I env h0 hs hN) fun _ h => h
theorem cutFrom_ok {a e : EX} {env : Env} {xs : List Val} {m : Int} (ha : a env = .ok (.lst xs)) (he : e env = .ok (.int m)) : eCut a (some e) none env = .ok (.lst (cut xs (some m) none)) := by
  have h : partOf (some e) env = .ok (some m) := by
    show (e env).bind _ = _
    rw [he]
    rfl
  unfold eCut
  rw [ha]
  show ((partOf (some e) env).bind fun l => (partOf none env).bind fun h => vCut (.lst xs) l h) = _
  rw [h]
  rfl
end Vm
end
noncomputable section
namespace Vm
local macro_rules | `(tactic| simp! [$ts,*]) => `(tactic| simp only [Ok_seq, OkM_seq, OkM_next, OkM_ret, OkM_exc, OkM_brk, OkM_cont, OkM_bind, OkM_cond, OkM_ite, RS.bind_ok, RS.bind_exc, RS.bind_bad, Res.flow_exc, Flow.bind_exc, RS.flow_ok, RS.flow_exc, RS.flow_bad, Res.rs_ok, Res.rs_exc, Res.rs_bad, RSflow_ite, RSbind_ite, RSflow_cond, RSbind_cond, rs_ite, rs_cond, mH, mN, mNil, mCons, mLst, mTup, m1, m2, mIf, mAnd, mOr, mNot, mFn, mArgs, bmP, bmV, bmT, bmAnd, bmOr, bmNot, sSetM, sDropM, sRetM, sIfM, sRaise, sSet, sSetN, sOwn, sOwnN, sAppend, sAppendN, sFreeze, sForget, sIf, sRet, sRetN, sNext, sPut, sDrop, sAug, sOn, sItem, sItemN, itemPut, sBreak, sCont, hide, Slot.hide, eVar, eC, e1, e2, eArgs, eAnd, eOr, eNot, eIf, eChain, eCall, eCut, partOf, aNil, aCons, asBl, bVal, bTruth, bAnd, bOr, bNot, bYes, truth, vAdd_int, vAdd_lst, vAdd_tup, vSub, vMul_int, vDiv_int, vMod_int, vPow18, vPow12, vPow11, vPow9, vPow6, vNeg, vLt, vLe, vGt, vGe, vEq, vNe, eqR_int, eqR_bl, eqR_str, vIsi, Val.isOb, vTup, vLst, vLen_lst, vLen_tup, vInt, vIs, vIsNot, vIx_lst, vIx_tup, vIx_dct, vListOf, vTupOf, vIpAdd, vMax2, vMax3, vMin2, Val.ty, Ty.sub, noLst_int, noLst_bl, noLst_str, noLst_non, noLst_tup, noLsts_nil, noLsts_cons, noLsts_ints, pName, pTup, pTupL, putAll, iSeq, itemsOf, iRange1, iRange2, DR.res, Res.ofOpt_some, Res.ofOpt_none, Res.bind_ok, Res.bind_exc, Res.bind_bad, Res.nx_ok, Res.flow_ok, Res.flow_bad, Flow.bind_next, Flow.bind_ret, Flow.bind_brk, Flow.bind_cont, Flow.bind_bad, Ok_next, Ok_ret, Ok_brk, Ok_cont, Ok_bind, Ok_cond, Ok_ite, Ok_ofOpt, flow_ite, bind_ite, nx_ite', flow_cond, bind_cond, cond_andV, cond_orV, cond_and, cond_or, atI_nat, atI_0, atI_1, atI_lit, startE, List.map_cons, List.map_nil, List.length_cons, List.length_nil, List.getElem?_cons_zero, List.getElem?_cons_succ, List.set_cons_zero, List.set_cons_succ, List.set_nil, List.replicate, List.append_nil, List.cons_append, List.nil_append, Nat.sub_self, Nat.reduceAdd, Nat.reduceSub, Nat.reduceLT, Nat.reduceLeDiff, Nat.reduceEqDiff, Int.reduceLE, Int.reduceLT, Int.reduceToNat, Int.reducePow, Int.reduceMul, Int.reduceAdd, Int.reduceSub, Int.reduceNeg, Int.cast_ofNat_Int, if_true, if_false, ↓reduceIte, reduceCtorEq, beq_self_eq_true, and_true, true_and, decide_eq_true_eq, decide_eq_false_iff_not, Bool.not_eq_true', Bool.not_eq_false', Bool.and_true, Bool.true_and, Bool.or_true, Bool.and_false, Bool.or_false, Bool.false_or, Bool.true_or, Bool.false_and, Bool.not_true, Bool.not_false, beq_iff_eq, forall_const, false_implies, Option.map_some, decide_true, decide_false, cond_true, cond_false, $ts,*])
open PySem
namespace Lib
end Lib
end Vm
end
noncomputable section
namespace Vm
open PySem
namespace Lib
end Lib
end Vm
end
noncomputable section
namespace Vm
namespace Lib
open PySem
end Lib
end Vm
end
noncomputable section
namespace Vm
open PySem
namespace Lib
/-- no not below a not -/
def NN (ns : List Nd) : Prop := ∀ (i y : Nat), ns[i]? = some [.inr "not", .inl (y : Int)] → (ns[y]?).bind notArg = none
structure WX (ns : List Nd) : Prop where
  wf : WFn ns
  nn : NN ns
/-- what stays behind a step -/
structure St (ns ns' : List Nd) (x : Int) : Prop where
  wx : WX ns'
  x0 : 0 ≤ x
  x1 : x < ns'.length
  le : ns.length ≤ ns'.length
  mt : ns'.length ≤ ns.length + 3
end Lib
end Vm
end
noncomputable section
namespace Vm
open PySem
namespace Lib
structure TW (s : NT) : Prop where
  wx : WX s.ns
  l2 : 2 ≤ s.ns.length
  ln : s.ns.length < 99990
theorem TW.step {s : NT} (t : TW s) {l : List Nd} (w : WX l) (h : s.ns.length ≤ l.length) (h2 : l.length < 99990) : TW (s.put l) := ⟨w, Nat.le_trans t.l2 h, h2⟩
end Lib
end Vm
end
noncomputable section
namespace Vm
open PySem
namespace Lib
end Lib
end Vm
end
noncomputable section
namespace Vm
namespace Dia
abbrev Tri := Nat × Nat × Nat
/-- the variable above a node, one more; terminals 0 -/
def lev (ns : List Tri) (i : Nat) : Nat := if i < 2 then 0 else match ns[i - 2]? with
  | some k => k.1 + 1
  | none => 0
def ev (ns : List Tri) : Nat → Nat → (Nat → Bool) → Bool
  | 0, _, _ => false
  | f + 1, i, ρ => if i = 0 then false else if i = 1 then true else match ns[i - 2]? with
    | some k => ev ns f (if ρ k.1 then k.2.2 else k.2.1) ρ
    | none => false
def val (ns : List Tri) (i : Nat) (ρ : Nat → Bool) : Bool := ev ns (i + 1) i ρ
/-- a good list of nodes over c variables -/
structure WD (c : Nat) (ns : List Tri) : Prop where
  kid : ∀ (j : Nat) (k : Tri), ns[j]? = some k → k.2.1 < j + 2 ∧ k.2.2 < j + 2 ∧ k.2.1 ≠ k.2.2 ∧ k.1 < c ∧ lev ns k.2.1 ≤ k.1 ∧ lev ns k.2.2 ≤ k.1
  nd : ns.Nodup
theorem ev_fuel {c : Nat} {ns : List Tri} (w : WD c ns) : ∀ (f g i : Nat) (ρ : Nat → Bool), i < f → i < g → ev ns f i ρ = ev ns g i ρ
  | 0, _, i, ρ, h, _ => absurd h (by omega)
  | _ + 1, 0, i, ρ, _, h => absurd h (by omega)
  | f + 1, g + 1, i, ρ, h, h' => by
    unfold ev
    by_cases h0 : i = 0
    · rw [if_pos h0, if_pos h0]
    rw [if_neg h0, if_neg h0]
    by_cases h1 : i = 1
    · rw [if_pos h1, if_pos h1]
    rw [if_neg h1, if_neg h1]
    cases hk : ns[i - 2]? with
    | none => rfl
    | some k =>
      obtain ⟨a, b, _⟩ := w.kid _ k hk
      exact ev_fuel w f g _ ρ (by split <;> omega) (by split <;> omega)
theorem val_0 (ns : List Tri) (ρ : Nat → Bool) : val ns 0 ρ = false := rfl
theorem val_1 (ns : List Tri) (ρ : Nat → Bool) : val ns 1 ρ = true := rfl
theorem val_node {c : Nat} {ns : List Tri} (w : WD c ns) {j : Nat} {k : Tri} (h : ns[j]? = some k) (ρ : Nat → Bool) : val ns (j + 2) ρ = val ns (if ρ k.1 then k.2.2 else k.2.1) ρ := by
  obtain ⟨a, b, _⟩ := w.kid _ k h
  have e : val ns (j + 2) ρ = ev ns (j + 2) (if ρ k.1 then k.2.2 else k.2.1) ρ := by
    show ev ns (j + 2 + 1) (j + 2) ρ = _
    rw [ev, if_neg (by omega), if_neg (by omega), Nat.add_sub_cancel, h]
  rw [e]
  exact ev_fuel w _ _ _ ρ (by split <;> omega) (by omega)
theorem lev_node {ns : List Tri} {j : Nat} {k : Tri} (h : ns[j]? = some k) : lev ns (j + 2) = k.1 + 1 := by
  unfold lev
  rw [if_neg (by omega), Nat.add_sub_cancel, h]
theorem lev_term (ns : List Tri) {i : Nat} (h : i < 2) : lev ns i = 0 := if_pos h
/-- a node from 2 on -/
theorem node_of {ns : List Tri} {i : Nat} (h2 : 2 ≤ i) (h : i < ns.length + 2) : ∃ j k, i = j + 2 ∧ ns[j]? = some k :=
  ⟨i - 2, ns[i - 2]'(by omega), by omega, List.getElem?_eq_getElem (by omega)⟩
theorem get_ext {ns : List Tri} (m : List Tri) {j : Nat} {k : Tri} (h : ns[j]? = some k) : (ns ++ m)[j]? = some k := by
  rw [List.getElem?_append_left (List.getElem?_eq_some_iff.mp h).1]
  exact h
theorem lev_ext (ns m : List Tri) {i : Nat} (h : i < ns.length + 2) : lev (ns ++ m) i = lev ns i := by
  by_cases h2 : i < 2
  · rw [lev_term _ h2, lev_term _ h2]
  · obtain ⟨j, k, rfl, hk⟩ := node_of (by omega) h
    rw [lev_node hk, lev_node (get_ext m hk)]
theorem val_ext {c : Nat} {ns m : List Tri} (w : WD c ns) (w' : WD c (ns ++ m)) : ∀ (n i : Nat) (ρ : Nat → Bool), i < n → i < ns.length + 2 → val (ns ++ m) i ρ = val ns i ρ
  | 0, i, ρ, h, _ => absurd h (by omega)
  | n + 1, i, ρ, h, hl => by
    by_cases h0 : i = 0
    · subst h0; rfl
    by_cases h1 : i = 1
    · subst h1; rfl
    obtain ⟨j, k, rfl, hk⟩ := node_of (by omega) hl
    obtain ⟨a, b, _⟩ := w.kid _ k hk
    rw [val_node w hk, val_node w' (get_ext m hk)]
    exact val_ext w w' n _ ρ (by split <;> omega) (by split <;> omega)
def side (ns : List Tri) (i v : Nat) (b : Bool) : Nat := if i < 2 then i else match ns[i - 2]? with
  | some k => if k.1 = v then (if b then k.2.2 else k.2.1) else i
  | none => i
theorem side_lt {c : Nat} {ns : List Tri} (w : WD c ns) {i v : Nat} {b : Bool} (h : i < ns.length + 2) : side ns i v b < ns.length + 2 := by
  unfold side
  by_cases h2 : i < 2
  · rw [if_pos h2]; omega
  · rw [if_neg h2]
    obtain ⟨j, k, rfl, hk⟩ := node_of (by omega) h
    rw [Nat.add_sub_cancel, hk]
    obtain ⟨p, q, _⟩ := w.kid _ k hk
    show (if k.1 = v then (if b then k.2.2 else k.2.1) else j + 2) < _
    split
    · cases b <;> simp <;> omega
    · exact h
theorem side_lev {c : Nat} {ns : List Tri} (w : WD c ns) {i v : Nat} {b : Bool} (h : i < ns.length + 2) (hl : lev ns i ≤ v + 1) : lev ns (side ns i v b) ≤ v := by
  unfold side
  by_cases h2 : i < 2
  · rw [if_pos h2, lev_term _ h2]; omega
  · rw [if_neg h2]
    obtain ⟨j, k, rfl, hk⟩ := node_of (by omega) h
    rw [lev_node hk] at hl
    rw [Nat.add_sub_cancel, hk]
    obtain ⟨p, q, _, _, l1, l2⟩ := w.kid _ k hk
    show lev ns (if k.1 = v then (if b then k.2.2 else k.2.1) else j + 2) ≤ v
    split
    · cases b <;> simp <;> omega
    · rw [lev_node hk]; omega
theorem side_val {c : Nat} {ns : List Tri} (w : WD c ns) {i v : Nat} (h : i < ns.length + 2) (ρ : Nat → Bool) : val ns (side ns i v (ρ v)) ρ = val ns i ρ := by
  unfold side
  by_cases h2 : i < 2
  · rw [if_pos h2]
  · rw [if_neg h2]
    obtain ⟨j, k, rfl, hk⟩ := node_of (by omega) h
    rw [Nat.add_sub_cancel, hk]
    show val ns (if k.1 = v then (if ρ v then k.2.2 else k.2.1) else j + 2) ρ = _
    split
    · rename_i e
      rw [val_node w hk, e]
    · rfl
def foundD (ns : List Tri) (k : Tri) : Nat × List Tri := if k.2.1 = k.2.2 then (k.2.1, ns) else if k ∈ ns then (ns.idxOf k + 2, ns) else (ns.length + 2, ns ++ [k])
theorem WD.snoc {c : Nat} {ns : List Tri} (w : WD c ns) {k : Tri} (hk : k ∉ ns) (h1 : k.2.1 < ns.length + 2) (h2 : k.2.2 < ns.length + 2) (hne : k.2.1 ≠ k.2.2) (hc : k.1 < c) (l1 : lev ns k.2.1 ≤ k.1) (l2 : lev ns k.2.2 ≤ k.1) : WD c (ns ++ [k]) := by
  refine ⟨fun j z hz => ?_, ?_⟩
  · by_cases hj : j < ns.length
    · rw [List.getElem?_append_left hj] at hz
      obtain ⟨a, b, ne, d, e, f⟩ := w.kid j z hz
      rw [lev_ext ns [k] (by omega), lev_ext ns [k] (by omega)]
      exact ⟨a, b, ne, d, e, f⟩
    · rw [List.getElem?_append_right (by omega)] at hz
      have h0 : j - ns.length = 0 := by
        by_cases h0 : j - ns.length = 0
        · exact h0
        · rw [List.getElem?_eq_none (by simp; omega)] at hz; cases hz
      rw [h0] at hz
      have : k = z := Option.some.inj hz
      subst this
      rw [lev_ext ns [k] h1, lev_ext ns [k] h2]
      exact ⟨by omega, by omega, hne, hc, l1, l2⟩
  · refine List.nodup_append.mpr ⟨w.nd, List.nodup_cons.mpr ⟨by simp, .nil⟩, fun a ha b hb z => ?_⟩
    rw [List.mem_singleton.mp hb] at z
    subst z
    exact hk ha
theorem found_spec {c : Nat} {ns : List Tri} (w : WD c ns) {k : Tri} (h1 : k.2.1 < ns.length + 2) (h2 : k.2.2 < ns.length + 2) (hc : k.1 < c) (l1 : lev ns k.2.1 ≤ k.1) (l2 : lev ns k.2.2 ≤ k.1) :
    WD c (foundD ns k).2 ∧ (∃ m, (foundD ns k).2 = ns ++ m ∧ m.length ≤ 1) ∧ (foundD ns k).1 < (foundD ns k).2.length + 2 ∧ lev (foundD ns k).2 (foundD ns k).1 ≤ k.1 + 1 ∧ ∀ ρ, val (foundD ns k).2 (foundD ns k).1 ρ = val ns (if ρ k.1 then k.2.2 else k.2.1) ρ := by
  unfold foundD
  by_cases he : k.2.1 = k.2.2
  · rw [if_pos he]
    refine ⟨w, ⟨[], (List.append_nil _).symm, by simp⟩, h1, by show lev ns k.2.1 ≤ _; omega, fun ρ => ?_⟩
    show val ns k.2.1 ρ = _
    rw [← he]
    split <;> rfl
  rw [if_neg he]
  by_cases hm : k ∈ ns
  · rw [if_pos hm]
    have hi := List.idxOf_lt_length_of_mem hm
    have hg : ns[ns.idxOf k]? = some k := by rw [List.getElem?_eq_getElem hi, List.getElem_idxOf hi]
    exact ⟨w, ⟨[], (List.append_nil _).symm, by simp⟩, by show ns.idxOf k + 2 < ns.length + 2; omega, by rw [lev_node hg]; omega, fun ρ => val_node w hg ρ⟩
  · rw [if_neg hm]
    have w' := w.snoc hm h1 h2 he hc l1 l2
    have hg : (ns ++ [k])[ns.length]? = some k := by simp
    refine ⟨w', ⟨[k], rfl, by simp⟩, by simp, by rw [lev_node hg]; omega, fun ρ => ?_⟩
    show val (ns ++ [k]) (ns.length + 2) ρ = _
    rw [val_node w' hg]
    exact val_ext w w' (ns.length + 2) _ ρ (by split <;> omega) (by split <;> omega)
/-- the choice of three nodes -/
structure Spec (ns : List Tri) (f g h r : Nat) : Prop where
  lt : r < ns.length + 2
  lv : lev ns r ≤ max (lev ns f) (max (lev ns g) (lev ns h))
  vl : ∀ ρ, val ns r ρ = if val ns f ρ then val ns g ρ else val ns h ρ
theorem Spec.ext {c : Nat} {ns m : List Tri} (w : WD c ns) (w' : WD c (ns ++ m)) {f g h r : Nat} (s : Spec ns f g h r) (hf : f < ns.length + 2) (hg : g < ns.length + 2) (hh : h < ns.length + 2) : Spec (ns ++ m) f g h r := by
  refine ⟨by rw [List.length_append]; have := s.lt; omega, ?_, fun ρ => ?_⟩
  · rw [lev_ext ns m s.lt, lev_ext ns m hf, lev_ext ns m hg, lev_ext ns m hh]
    exact s.lv
  · rw [val_ext w w' _ r ρ (Nat.lt_succ_self _) s.lt, val_ext w w' _ f ρ (Nat.lt_succ_self _) hf, val_ext w w' _ g ρ (Nat.lt_succ_self _) hg, val_ext w w' _ h ρ (Nat.lt_succ_self _) hh]
    exact s.vl ρ
end Dia
end Vm
end
noncomputable section
namespace Vm
namespace Lib
open PySem
def m_Diagrams___init___3 : ST := (sFldT "Diagrams" "_choices" 0 fun _ => .ok (.dT []))
def m_Diagrams___init___2 : ST := (sSeq (sFldT "Diagrams" "_numbers" 0 fun _ => .ok (.dT []))
    m_Diagrams___init___3)
def m_Diagrams___init___1 : ST := (sSeq (sFldT "Diagrams" "_nodes" 0 (tOfL (eArgs vLst (aCons (eC .non) (aCons (eC .non) aNil)))))
    m_Diagrams___init___2)
def m_Diagrams___init__ : ST := (sSeq (sFldH "Diagrams" "_count" 0 (eVar 1))
    m_Diagrams___init___1)
def f_Diagrams___init__ : MFn := defnM 1 2 m_Diagrams___init__
def m_Diagrams__check_a_L : ST := (sIf (bNot (bVal (eChain vLe vLt (eC (.int 0)) (eVar 2) (eArgs vLen (aCons (eFld "Diagrams" "_nodes" (eVar 0)) aNil))))) (sRaise ⟨"NoSuchThing", []⟩) sNext)
def m_Diagrams__check_a_F : ST := (sFor (iSeq (eVar 1)) (pName 2) m_Diagrams__check_a_L)
def m_Diagrams__check : ST := m_Diagrams__check_a_F
def f_Diagrams__check : Fn := defn 2 3 m_Diagrams__check
def e_Diagrams__top_1 : EX := (eComp (iSeq (eVar 1)) [2] (pName 2) (bVal (e2 vGt (eVar 2) (eC (.int 1)))) (e2 vIx (e2 vIx (eFld "Diagrams" "_nodes" (eVar 0)) (eVar 2)) (eC (.int 0))))
def m_Diagrams__top : ST := (sRet (eArgs vMax (aCons e_Diagrams__top_1 aNil)))
def f_Diagrams__top : Fn := defn 2 3 m_Diagrams__top
def m_Diagrams__found_c_1 : ST := (sAtApp (.fl (.s 0) "Diagrams" "_nodes") (eVar 4))
def m_Diagrams__found_3 : ST := (sRet (e2 (vIxT (some st_Diagrams)) (eFld "Diagrams" "_numbers" (eVar 0)) (eVar 4)))
def m_Diagrams__found_2 : ST := (sSeq (sIf (bVal (e2 (vNotInT (some st_Diagrams)) (eVar 4) (eFld "Diagrams" "_numbers" (eVar 0)))) (sSeq (sAtPutN (some st_Diagrams) (.fl (.s 0) "Diagrams" "_numbers") (eVar 4) (eArgs vLen (aCons (eFld "Diagrams" "_nodes" (eVar 0)) aNil)))
    m_Diagrams__found_c_1) sNext)
    m_Diagrams__found_3)
def m_Diagrams__found_1 : ST := (sSeq (sSet 4 (eArgs vTup (aCons (eVar 1) (aCons (eVar 2) (aCons (eVar 3) aNil)))))
    m_Diagrams__found_2)
def m_Diagrams__found : ST := (sSeq (sIf (bVal (e2 vEq (eVar 2) (eVar 3))) (sRet (eVar 2)) sNext)
    m_Diagrams__found_1)
def f_Diagrams__found : MFn := defnM 3 5 m_Diagrams__found
def m_Diagrams__side_1 : ST := (sRet (e2 vIx (e2 vIx (eFld "Diagrams" "_nodes" (eVar 0)) (eVar 1)) (e2 vAdd (eC (.int 1)) (eVar 3))))
def m_Diagrams__side : ST := (sSeq (sIf (bOr (bVal (e2 vLe (eVar 1) (eC (.int 1)))) (bVal (e2 vNe (e2 vIx (e2 vIx (eFld "Diagrams" "_nodes" (eVar 0)) (eVar 1)) (eC (.int 0))) (eVar 2)))) (sRet (eVar 1)) sNext)
    m_Diagrams__side_1)
def f_Diagrams__side : Fn := defn 4 4 m_Diagrams__side
def e_Diagrams__chosen_1 (R : MFn) : EX := (eComp (iSeq (eArgs vTup (aCons (eVar 1) (aCons (eVar 2) (aCons (eVar 3) aNil))))) [8] (pName 8) bYes (eMeth "Diagrams" "_side" f_Diagrams__side (eVar 0) (aCons (eVar 8) (aCons (eVar 4) (aCons (eVar 6) aNil)))))
def m_Diagrams__chosen_cc_2 (R : MFn) : ST := (sAppendM 5 (mMeth "Diagrams" "_chosen" 0 R (mCons (mH (e2 vIx (eVar 7) (eC (.int 0)))) (mCons (mH (e2 vIx (eVar 7) (eC (.int 1)))) (mCons (mH (e2 vIx (eVar 7) (eC (.int 2)))) mNil)))))
def m_Diagrams__chosen_cc_1 (R : MFn) : ST := (sSeq (sFreeze 7) (m_Diagrams__chosen_cc_2 R))
def m_Diagrams__chosen_cc_L (R : MFn) : ST := (sSeq (sOwnN 7 (e_Diagrams__chosen_1 R))
    (m_Diagrams__chosen_cc_1 R))
def m_Diagrams__chosen_cc_F (R : MFn) : ST := (sFor (iRange1 (eC (.int 2))) (pName 6) (m_Diagrams__chosen_cc_L R))
def m_Diagrams__chosen_c_4 (R : MFn) : ST := (sAtPutM (some st_Diagrams) (.fl (.s 0) "Diagrams" "_choices") (eArgs vTup (aCons (eVar 1) (aCons (eVar 2) (aCons (eVar 3) aNil)))) (mMeth "Diagrams" "_found" 0 f_Diagrams__found (mCons (mH (eVar 4)) (mCons (mH (e2 vIx (eVar 5) (eC (.int 0)))) (mCons (mH (e2 vIx (eVar 5) (eC (.int 1)))) mNil)))))
def m_Diagrams__chosen_c_3 (R : MFn) : ST := (sSeq (sFreeze 5) (m_Diagrams__chosen_c_4 R))
def m_Diagrams__chosen_c_2 (R : MFn) : ST := (sSeq (m_Diagrams__chosen_cc_F R)
    (m_Diagrams__chosen_c_3 R))
def m_Diagrams__chosen_c_1 (R : MFn) : ST := (sSeq (sOwn 5 (eArgs vLst aNil))
    (m_Diagrams__chosen_c_2 R))
def m_Diagrams__chosen_3 (R : MFn) : ST := (sRet (e2 (vIxT (some st_Diagrams)) (eFld "Diagrams" "_choices" (eVar 0)) (eArgs vTup (aCons (eVar 1) (aCons (eVar 2) (aCons (eVar 3) aNil))))))
def m_Diagrams__chosen_2 (R : MFn) : ST := (sSeq (sIf (bVal (e2 (vNotInT (some st_Diagrams)) (eArgs vTup (aCons (eVar 1) (aCons (eVar 2) (aCons (eVar 3) aNil)))) (eFld "Diagrams" "_choices" (eVar 0)))) (sSeq (sSetN 4 (eMeth "Diagrams" "_top" f_Diagrams__top (eVar 0) (aCons (eArgs vLst (aCons (eVar 1) (aCons (eVar 2) (aCons (eVar 3) aNil)))) aNil)))
    (m_Diagrams__chosen_c_1 R)) sNext)
    (m_Diagrams__chosen_3 R))
def m_Diagrams__chosen_1 (R : MFn) : ST := (sSeq (sIf (bVal (e2 vEq (eVar 1) (eC (.int 0)))) (sRet (eVar 3)) sNext)
    (m_Diagrams__chosen_2 R))
def m_Diagrams__chosen (R : MFn) : ST := (sSeq (sIf (bOr (bVal (e2 vEq (eVar 1) (eC (.int 1)))) (bVal (e2 vEq (eVar 2) (eVar 3)))) (sRet (eVar 2)) sNext)
    (m_Diagrams__chosen_1 R))
def fr_Diagrams__chosen : Nat → MFn
  | 0 => fun _ _ => .bad
  | n + 1 => defnM 3 9 (m_Diagrams__chosen (fr_Diagrams__chosen n))
def f_Diagrams__chosen : MFn := fr_Diagrams__chosen 20
def m_Diagrams_choose_1 : ST := (sRetM (mMeth "Diagrams" "_chosen" 0 f_Diagrams__chosen (mCons (mH (eVar 1)) (mCons (mH (eVar 2)) (mCons (mH (eVar 3)) mNil)))))
def m_Diagrams_choose : ST := (sSeq (sDrop (eMeth "Diagrams" "_check" f_Diagrams__check (eVar 0) (aCons (eArgs vLst (aCons (eVar 1) (aCons (eVar 2) (aCons (eVar 3) aNil)))) aNil)))
    m_Diagrams_choose_1)
def f_Diagrams_choose : MFn := defnM 3 4 m_Diagrams_choose
def m_Diagrams_negate : ST := (sRetM (mMeth "Diagrams" "choose" 0 f_Diagrams_choose (mCons (mH (eVar 1)) (mCons (mH (eC (.int 0))) (mCons (mH (eC (.int 1))) mNil)))))
def f_Diagrams_negate : MFn := defnM 1 2 m_Diagrams_negate
def m_Diagrams_differ_1 : ST := (sRetM (mMeth "Diagrams" "choose" 0 f_Diagrams_choose (mCons (mH (eVar 1)) (mCons (mMeth "Diagrams" "negate" 0 f_Diagrams_negate (mCons (mH (eVar 2)) mNil)) (mCons (mH (eVar 2)) mNil)))))
def m_Diagrams_differ : ST := (sSeq (sDrop (eMeth "Diagrams" "_check" f_Diagrams__check (eVar 0) (aCons (eArgs vLst (aCons (eVar 1) (aCons (eVar 2) aNil))) aNil)))
    m_Diagrams_differ_1)
def f_Diagrams_differ : MFn := defnM 2 3 m_Diagrams_differ
def m_Diagrams_both : ST := (sRetM (mMeth "Diagrams" "choose" 0 f_Diagrams_choose (mCons (mH (eVar 1)) (mCons (mH (eVar 2)) (mCons (mH (eC (.int 0))) mNil)))))
def f_Diagrams_both : MFn := defnM 2 3 m_Diagrams_both
def m_Diagrams_either : ST := (sRetM (mMeth "Diagrams" "choose" 0 f_Diagrams_choose (mCons (mH (eVar 1)) (mCons (mH (eC (.int 1))) (mCons (mH (eVar 2)) mNil)))))
def f_Diagrams_either : MFn := defnM 2 3 m_Diagrams_either
def e__law_apply_1 : EX := (eComp (iRange1 (eVar 4)) [5] (pName 5) bYes (e2 vIx (e2 vIx (eVar 3) (e2 vAdd (eC (.int 1)) (eArgs vInt (aCons (e2 vEq (e2 vIx (e2 vIx (eVar 3) (eC (.int 0))) (eVar 5)) (eC (.int 0))) aNil)))) (eVar 5)))
def e__law_apply_2 : EX := (eComp (iRange1 (eVar 4)) [5] (pName 5) bYes (e2 vSub (eC (.int 1)) (e2 vIx (e2 vIx (eVar 3) (eC (.int 0))) (eVar 5))))
def e__law_apply_3 : EX := (eComp (iRange1 (eVar 4)) [5] (pName 5) bYes (e2 vMul (e2 vIx (e2 vIx (eVar 3) (eC (.int 0))) (eVar 5)) (e2 vIx (e2 vIx (eVar 3) (eC (.int 1))) (eVar 5))))
def e__law_apply_4 : EX := (eComp (iRange1 (eVar 4)) [5] (pName 5) bYes (eArgs vMax (aCons (e2 vIx (e2 vIx (eVar 3) (eC (.int 0))) (eVar 5)) (aCons (e2 vIx (e2 vIx (eVar 3) (eC (.int 1))) (eVar 5)) aNil))))
def e__law_apply_5 : EX := (eComp (iRange1 (eVar 4)) [5] (pName 5) bYes (eArgs vInt (aCons (e2 vNe (e2 vIx (e2 vIx (eVar 3) (eC (.int 0))) (eVar 5)) (e2 vIx (e2 vIx (eVar 3) (eC (.int 1))) (eVar 5))) aNil)))
def m__law_apply_5 : ST := (sRetW (mTup (mCons (mMeth "Diagrams" "differ" 0 f_Diagrams_differ (mCons (mH (e2 vIx (eVar 2) (eC (.int 0)))) (mCons (mH (e2 vIx (eVar 2) (eC (.int 1)))) mNil))) (mCons (mH e__law_apply_5) mNil))))
def m__law_apply_4 : ST := (sSeq (sIf (bVal (e2 vEq (eVar 1) (eC (.int 3)))) (sRetW (mTup (mCons (mMeth "Diagrams" "either" 0 f_Diagrams_either (mCons (mH (e2 vIx (eVar 2) (eC (.int 0)))) (mCons (mH (e2 vIx (eVar 2) (eC (.int 1)))) mNil))) (mCons (mH e__law_apply_4) mNil)))) sNext)
    m__law_apply_5)
def m__law_apply_3 : ST := (sSeq (sIf (bVal (e2 vEq (eVar 1) (eC (.int 2)))) (sRetW (mTup (mCons (mMeth "Diagrams" "both" 0 f_Diagrams_both (mCons (mH (e2 vIx (eVar 2) (eC (.int 0)))) (mCons (mH (e2 vIx (eVar 2) (eC (.int 1)))) mNil))) (mCons (mH e__law_apply_3) mNil)))) sNext)
    m__law_apply_4)
def m__law_apply_2 : ST := (sSeq (sIf (bVal (e2 vEq (eVar 1) (eC (.int 1)))) (sRetW (mTup (mCons (mMeth "Diagrams" "negate" 0 f_Diagrams_negate (mCons (mH (e2 vIx (eVar 2) (eC (.int 0)))) mNil)) (mCons (mH e__law_apply_2) mNil)))) sNext)
    m__law_apply_3)
def m__law_apply_1 : ST := (sSeq (sIf (bVal (e2 vEq (eVar 1) (eC (.int 0)))) (sRetW (mTup (mCons (mMeth "Diagrams" "choose" 0 f_Diagrams_choose (mCons (mH (e2 vIx (eVar 2) (eC (.int 0)))) (mCons (mH (e2 vIx (eVar 2) (eC (.int 1)))) (mCons (mH (e2 vIx (eVar 2) (eC (.int 2)))) mNil)))) (mCons (mH e__law_apply_1) mNil)))) sNext)
    m__law_apply_2)
def m__law_apply : ST := (sSeq (sSet 4 (eArgs vLen (aCons (e2 vIx (eVar 3) (eC (.int 0))) aNil)))
    m__law_apply_1)
def f__law_apply : MFn := defnM 3 6 m__law_apply
def m_Diagrams_variable_1 : ST := (sRetM (mMeth "Diagrams" "_found" 0 f_Diagrams__found (mCons (mH (eVar 1)) (mCons (mH (eC (.int 0))) (mCons (mH (eC (.int 1))) mNil)))))
def m_Diagrams_variable : ST := (sSeq (sIf (bNot (bVal (eChain vLe vLt (eC (.int 0)) (eVar 1) (eFld "Diagrams" "_count" (eVar 0))))) (sRaise ⟨"NoSuchThing", []⟩) sNext)
    m_Diagrams_variable_1)
def f_Diagrams_variable : MFn := defnM 1 2 m_Diagrams_variable
def e__law_functions_1 : EX := (eComp (iRange1 (eVar 3)) [7] (pName 7) bYes (eC (.int 1)))
def e__law_functions_2 : EX := (eComp (iRange1 (eVar 3)) [7] (pName 7) bYes (eC (.int 0)))
def e__law_functions_3 : EX := (eComp (iRange1 (eVar 3)) [7] (pName 7) bYes (e2 vIx (eCall f__law_bits (aCons (eVar 7) (aCons (eVar 1) aNil))) (eVar 6)))
def m__law_functions_f_1 : ST := (sAppend 5 e__law_functions_3)
def m__law_functions_f_L : ST := (sSeq (sAppendM 4 (mMeth "Diagrams" "variable" 2 f_Diagrams_variable (mCons (mH (eVar 6)) mNil)))
    m__law_functions_f_1)
def m__law_functions_f_F : ST := (sFor (iRange1 (eVar 1)) (pName 6) m__law_functions_f_L)
def e__law_functions_4 : EX := (eComp (iSeq (eCut (eVar 8) (some (eC (.int 1))) none)) [13] (pName 13) bYes (e2 vMod (eArgs vInt (aCons (eVar 13) aNil)) (eArgs vLen (aCons (eVar 4) aNil))))
def e__law_functions_5 : EM := (mComp (itH (iSeq (eVar 9))) [14] (pName 14) (bmP bYes) (mIxO 5 (mH (eVar 14))))
def e__law_functions_6 : EM := (mComp (itH (iSeq (eVar 9))) [14] (pName 14) (bmP bYes) (mIxO 4 (mH (eVar 14))))
def m__law_functions_g_6 : ST := (sAppend 5 (eVar 12))
def m__law_functions_g_5 : ST := (sSeq (sAppend 4 (eVar 11))
    m__law_functions_g_6)
def m__law_functions_g_4 : ST := (sSeq (sPutM (pTup [11, 12]) (mCall 2 f__law_apply (mCons (mH (eVar 10)) (mCons e__law_functions_6 (mCons e__law_functions_5 mNil)))))
    m__law_functions_g_5)
def m__law_functions_g_3 : ST := (sSeq (sSet 10 (e2 vIx (eArgs vLst (aCons (eC (.int 0)) (aCons (eC (.int 0)) (aCons (eC (.int 0)) (aCons (eC (.int 1)) (aCons (eC (.int 2)) (aCons (eC (.int 3)) (aCons (eC (.int 4)) (aCons (eC (.int 4)) aNil))))))))) (e2 vIx (eVar 8) (eC (.int 0)))))
    m__law_functions_g_4)
def m__law_functions_g_2 : ST := (sSeq (sFreeze 9) m__law_functions_g_3)
def m__law_functions_g_1 : ST := (sSeq (sOwnN 9 e__law_functions_4)
    m__law_functions_g_2)
def m__law_functions_g_L : ST := (sSeq (sSet 8 (eCall f__law_parts (aCons (e2 vAdd (eCall f__law_cell (aCons (eVar 0) (aCons (e2 vAdd (eC (.int 1)) (eVar 7)) aNil))) (e2 vMul (eC (.int 29)) (eVar 7))) (aCons (eArgs vLst (aCons (eC (.int 8)) (aCons (eC (.int 60)) (aCons (eC (.int 60)) (aCons (eC (.int 60)) aNil))))) aNil))))
    m__law_functions_g_1)
def m__law_functions_g_F : ST := (sFor (iRange1 (eArgs vMin (aCons (eC (.int 14)) (aCons (eArgs vMax (aCons (eC (.int 3)) (aCons (e2 vSub (eArgs vLen (aCons (eVar 0) aNil)) (eC (.int 1))) aNil))) aNil)))) (pName 7) m__law_functions_g_L)
def m__law_functions_8 : ST := (sSeq (sFreeze 5) sNext)
def m__law_functions_7 : ST := (sSeq (sFreeze 4) m__law_functions_8)
def m__law_functions_6 : ST := (sSeq m__law_functions_g_F
    m__law_functions_7)
def m__law_functions_5 : ST := (sSeq m__law_functions_f_F
    m__law_functions_6)
def m__law_functions_4 : ST := (sSeq (sOwn 5 (eArgs vLst (aCons e__law_functions_2 (aCons e__law_functions_1 aNil))))
    m__law_functions_5)
def m__law_functions_3 : ST := (sSeq (sOwn 4 (eArgs vLst (aCons (eC (.int 0)) (aCons (eC (.int 1)) aNil))))
    m__law_functions_4)
def m__law_functions_2 : ST := (sSeq (sSet 3 (e2 vIx (eArgs vLst (aCons (eC (.int 1)) (aCons (eC (.int 2)) (aCons (eC (.int 4)) (aCons (eC (.int 8)) (aCons (eC (.int 16)) (aCons (eC (.int 32)) aNil))))))) (eVar 1)))
    m__law_functions_3)
def m__law_functions_1 : ST := (sSeq (sOwnT 2 (tMakeT "Diagrams" f_Diagrams___init__ (aCons (eVar 1) aNil)))
    m__law_functions_2)
def m__law_functions : ST := (sSeq (sSet 1 (e2 vIx (eCall f__law_parts (aCons (eCall f__law_cell (aCons (eVar 0) (aCons (eC (.int 0)) aNil))) (aCons (eArgs vLst (aCons (eC (.int 6)) aNil)) aNil))) (eC (.int 0))))
    m__law_functions_1)
def f__law_functions : FnU := defnU 1 15 m__law_functions 2 (aCons (eVar 1) (aCons (eVar 4) (aCons (eVar 5) aNil)))
def m_Diagrams_first_case_db_1 : ST := (sSet 1 (eVar 5))
def m_Diagrams_first_case_d_1 : ST := (sIf (bVal (e2 vEq (eVar 4) (eC (.int 0)))) (sSeq (sAug vIpAdd 2 (e2 vShl (eC (.int 1)) (eVar 3)))
    m_Diagrams_first_case_db_1) (sSet 1 (eVar 4)))
def m_Diagrams_first_case_d_L : ST := (sSeq (sPut (pTup [3, 4, 5]) (e2 vIx (eFld "Diagrams" "_nodes" (eVar 0)) (eVar 1)))
    m_Diagrams_first_case_d_1)
def m_Diagrams_first_case_d_F : ST := (sWhile 100000 (bVal (e2 vGt (eVar 1) (eC (.int 1)))) m_Diagrams_first_case_d_L)
def m_Diagrams_first_case_4 : ST := (sRet (eVar 2))
def m_Diagrams_first_case_3 : ST := (sSeq m_Diagrams_first_case_d_F
    m_Diagrams_first_case_4)
def m_Diagrams_first_case_2 : ST := (sSeq (sSet 2 (eC (.int 0)))
    m_Diagrams_first_case_3)
def m_Diagrams_first_case_1 : ST := (sSeq (sIf (bVal (e2 vEq (eVar 1) (eC (.int 0)))) (sRet (eC .non)) sNext)
    m_Diagrams_first_case_2)
def m_Diagrams_first_case : ST := (sSeq (sDrop (eMeth "Diagrams" "_check" f_Diagrams__check (eVar 0) (aCons (eArgs vLst (aCons (eVar 1) aNil)) aNil)))
    m_Diagrams_first_case_1)
def f_Diagrams_first_case : Fn := defn 2 6 m_Diagrams_first_case
def m_Diagrams_value_c_1 : ST := (sSet 1 (eIf (bVal (e2 vEq (e2 vIx (eVar 2) (eVar 3)) (eC (.int 1)))) (eVar 5) (eVar 4)))
def m_Diagrams_value_c_L : ST := (sSeq (sPut (pTup [3, 4, 5]) (e2 vIx (eFld "Diagrams" "_nodes" (eVar 0)) (eVar 1)))
    m_Diagrams_value_c_1)
def m_Diagrams_value_c_F : ST := (sWhile 100000 (bVal (e2 vGt (eVar 1) (eC (.int 1)))) m_Diagrams_value_c_L)
def m_Diagrams_value_3 : ST := (sRet (eVar 1))
def m_Diagrams_value_2 : ST := (sSeq m_Diagrams_value_c_F
    m_Diagrams_value_3)
def m_Diagrams_value_1 : ST := (sSeq (sDrop (eCall f_check_bits (aCons (eVar 2) (aCons (eFld "Diagrams" "_count" (eVar 0)) aNil))))
    m_Diagrams_value_2)
def m_Diagrams_value : ST := (sSeq (sDrop (eMeth "Diagrams" "_check" f_Diagrams__check (eVar 0) (aCons (eArgs vLst (aCons (eVar 1) aNil)) aNil)))
    m_Diagrams_value_1)
def f_Diagrams_value : Fn := defn 3 6 m_Diagrams_value
end Lib
end Vm
end
noncomputable section
namespace Vm
open PySem
namespace Dia
def key (k : Tri) : Nd := [.inl (k.1 : Int), .inl (k.2.1 : Int), .inl (k.2.2 : Int)]
theorem key_inj {a b : Tri} (h : key a = key b) : a = b := by
  obtain ⟨a1, a2, a3⟩ := a
  obtain ⟨b1, b2, b3⟩ := b
  unfold key at h
  simp at h
  obtain ⟨h1, h2, h3⟩ := h
  have : a1 = b1 := by omega
  have : a2 = b2 := by omega
  have : a3 = b3 := by omega
  subst_vars
  rfl
theorem key_mem {k : Tri} {ns : List Tri} : key k ∈ ns.map key ↔ k ∈ ns := by
  constructor
  · intro h
    obtain ⟨x, hx, e⟩ := List.mem_map.mp h
    rw [← key_inj e]
    exact hx
  · exact fun h => List.mem_map_of_mem h
theorem key_idx (k : Tri) : ∀ ns : List Tri, (ns.map key).idxOf (key k) = ns.idxOf k
  | [] => rfl
  | x :: ns => by
    rw [List.map_cons, List.idxOf_cons, List.idxOf_cons, key_idx k ns]
    have : (key x == key k) = (x == k) := by
      rw [Bool.eq_iff_iff, beq_iff_eq, beq_iff_eq]
      exact ⟨fun h => key_inj h, fun h => by rw [h]⟩
    rw [this]
structure DG where
  c : Nat
  ns : List Tri
  ch : List (Tri × Nat)
def chT (ch : List (Tri × Nat)) : List (List Key × Tr) := ch.map fun p => (key p.1, .v (.int (p.2 : Int)))
def chV (ch : List (Tri × Nat)) : List (List Key × Val) := ch.map fun p => (key p.1, .int (p.2 : Int))
theorem chT_val : ∀ ch, Tr.valsT (chT ch) = chV ch
  | [] => rfl
  | p :: ch => congrArg ((key p.1, Val.int (p.2 : Int)) :: ·) (chT_val ch)
def look (ch : List (Tri × Nat)) (k : Tri) : Option Nat := (ch.find? fun p => decide (p.1 = k)).map (·.2)
theorem getK_ch (k : Tri) : ∀ ch, getK (chV ch) (key k) = (look ch k).map fun r => Val.int (r : Int)
  | [] => rfl
  | p :: ch => by
    have ih := getK_ch k ch
    by_cases h : p.1 = k
    · have e1 : getK (chV (p :: ch)) (key k) = some (.int (p.2 : Int)) := by
        show (((key p.1, Val.int (p.2 : Int)) :: chV ch).find? fun kv => decide (kv.1 = key k)).map (·.2) = _
        rw [List.find?_cons_of_pos (by simp [h])]
        rfl
      have e2 : look (p :: ch) k = some p.2 := by
        unfold look
        rw [List.find?_cons_of_pos (by simpa using h)]
        rfl
      rw [e1, e2]
      rfl
    · have e1 : getK (chV (p :: ch)) (key k) = getK (chV ch) (key k) := by
        show (((key p.1, Val.int (p.2 : Int)) :: chV ch).find? fun kv => decide (kv.1 = key k)).map (·.2) = _
        rw [List.find?_cons_of_neg (by simpa using fun z => h (key_inj z))]
        rfl
      have e2 : look (p :: ch) k = look ch k := by
        unfold look
        rw [List.find?_cons_of_neg (by simpa using h)]
      rw [e1, e2, ih]
theorem look_mem {ch : List (Tri × Nat)} {k : Tri} {r : Nat} (h : look ch k = some r) : (k, r) ∈ ch := by
  unfold look at h
  cases hf : ch.find? fun p => decide (p.1 = k) with
  | none => rw [hf] at h; cases h
  | some p =>
    rw [hf] at h
    have h1 := List.mem_of_find?_eq_some hf
    have h2 := List.find?_some hf
    have e1 : p.1 = k := by simpa using h2
    have e2 : p.2 = r := Option.some.inj h
    rw [← e1, ← e2]
    exact h1
def putC (ch : List (Tri × Nat)) (k : Tri) (r : Nat) : List (Tri × Nat) := if (ch.any fun p => decide (p.1 = k)) = true then ch.map fun p => if p.1 = k then (p.1, r) else p else ch ++ [(k, r)]
theorem any_ch (k : Tri) : ∀ ch, ((chT ch).any fun kv => decide (kv.1 = key k)) = ch.any fun p => decide (p.1 = k)
  | [] => rfl
  | p :: ch => by
    show (decide (key p.1 = key k) || ((chT ch).any _)) = (decide (p.1 = k) || (ch.any _))
    rw [any_ch k ch]
    congr 1
    rw [decide_eq_decide]
    exact ⟨fun h => key_inj h, fun h => by rw [h]⟩
theorem put_ch (ch : List (Tri × Nat)) (k : Tri) (r : Nat) : putDt (chT ch) (key k) (.v (.int (r : Int))) = chT (putC ch k r) := by
  unfold putDt putC
  rw [any_ch]
  by_cases h : (ch.any fun p => decide (p.1 = k)) = true
  · rw [if_pos h, if_pos h]
    unfold chT
    rw [List.map_map, List.map_map]
    apply List.map_congr_left
    intro p _
    show (if key p.1 = key k then _ else _) = ((key (if p.1 = k then (p.1, r) else p).1, Tr.v (.int ((if p.1 = k then (p.1, r) else p).2 : Int))) : List Key × Tr)
    by_cases e : p.1 = k
    · rw [if_pos (by rw [e]), if_pos e]
    · rw [if_neg (fun z => e (key_inj z)), if_neg e]
  · rw [if_neg h, if_neg h]
    unfold chT
    rw [List.map_append]
    rfl
theorem putC_mem {ch : List (Tri × Nat)} {k : Tri} {r : Nat} {p : Tri × Nat} (h : p ∈ putC ch k r) : p ∈ ch ∨ p = (k, r) := by
  unfold putC at h
  split at h
  · obtain ⟨q, hq, e⟩ := List.mem_map.mp h
    by_cases hk : q.1 = k
    · rw [if_pos hk] at e
      exact .inr (by rw [← e, hk])
    · rw [if_neg hk] at e
      exact .inl (by rw [← e]; exact hq)
  · rcases List.mem_append.mp h with h | h
    · exact .inl h
    · exact .inr (List.mem_singleton.mp h)
theorem putC_len (ch : List (Tri × Nat)) (k : Tri) (r : Nat) : (putC ch k r).length ≤ ch.length + 1 := by
  unfold putC
  split
  · rw [List.length_map]; omega
  · rw [List.length_append]; exact Nat.le_refl _
theorem look_put (ch : List (Tri × Nat)) (k : Tri) (r : Nat) : look (putC ch k r) k = some r := by
  unfold putC
  split
  · rename_i h
    have : ∀ ch : List (Tri × Nat), (ch.any fun p => decide (p.1 = k)) = true → look (ch.map fun p => if p.1 = k then (p.1, r) else p) k = some r := by
      intro ch
      induction ch with
      | nil => intro h; cases h
      | cons p ch ih =>
        intro h
        unfold look
        rw [List.map_cons]
        by_cases e : p.1 = k
        · rw [if_pos e, List.find?_cons_of_pos (by simpa using e)]
          rfl
        · rw [if_neg e, List.find?_cons_of_neg (by simpa using e)]
          refine ih ?_
          rw [List.any_cons, decide_eq_false e, Bool.false_or] at h
          exact h
    exact this ch h
  · rename_i h
    unfold look
    rw [List.find?_append]
    have : ch.find? (fun p => decide (p.1 = k)) = none := by
      rw [List.find?_eq_none]
      intro x hx hd
      exact h (List.any_eq_true.mpr ⟨x, hx, hd⟩)
    rw [this]
    simp
def triV (k : Tri) : Val := ndV (key k)
def nodesV (ns : List Tri) : List Val := .non :: .non :: ns.map triV
def nodesT (ns : List Tri) : List Tr := .v .non :: .v .non :: ns.map fun k => .v (triV k)
def dgT (c : Nat) (nodes : List Tr) (nums : List (List Key × Tr)) (ch : List (List Key × Tr)) : Tr := .o "Diagrams" [("_count", .v (.int (c : Int))), ("_nodes", .l nodes), ("_numbers", .dT nums), ("_choices", .dT ch)]
def DG.tr (d : DG) : Tr := dgT d.c (nodesT d.ns) (numsT 2 (d.ns.map key)) (chT d.ch)
def DG.v (d : DG) : Val := .ob "Diagrams" [("_count", .int (d.c : Int)), ("_nodes", .lst (nodesV d.ns)), ("_numbers", .dcT (numsV 2 (d.ns.map key))), ("_choices", .dcT (chV d.ch))]
theorem nodes_val (ns : List Tri) : Tr.vals (nodesT ns) = nodesV ns := by
  show Val.non :: Val.non :: Tr.vals (ns.map fun k => .v (triV k)) = _
  rw [vals_map triV]
  rfl
theorem DG.tr_val (d : DG) : d.tr.val = d.v := by
  show Val.ob _ [_, ("_nodes", .lst (Tr.vals (nodesT d.ns))), ("_numbers", .dcT (Tr.valsT _)), ("_choices", .dcT (Tr.valsT _))] = _
  rw [nodes_val, numsT_val, chT_val]
  rfl
theorem dg0 (d : DG) (r : Env) : eVar 0 (.me d.tr :: r) = .ok d.v := congrArg Res.ok d.tr_val
section
variable {d : DG} {a : EX} {env : Env} (ha : a env = .ok d.v)
include ha
theorem dg_nodes : eFld "Diagrams" "_nodes" a env = .ok (.lst (nodesV d.ns)) := by
  unfold eFld
  rw [ha]
  rfl
theorem dg_numbers : eFld "Diagrams" "_numbers" a env = .ok (.dcT (numsV 2 (d.ns.map key))) := by
  unfold eFld
  rw [ha]
  rfl
theorem dg_choices : eFld "Diagrams" "_choices" a env = .ok (.dcT (chV d.ch)) := by
  unfold eFld
  rw [ha]
  rfl
theorem dg_count : eFld "Diagrams" "_count" a env = .ok (.int (d.c : Int)) := by
  unfold eFld
  rw [ha]
  rfl
theorem dg_meth {m : Str} (hm : (d.v = d.v ∧ isO "Diagrams" m (some d.tr) = true)) {f : Fn} {r : EL} {xs : List Val} {y : Val} (hr : r env = .ok xs) (hf : f (d.v :: xs) = .ret y) (hn : ([("_count", .int (d.c : Int)), ("_nodes", .lst (nodesV d.ns)), ("_numbers", .dcT (numsV 2 (d.ns.map key))), ("_choices", .dcT (chV d.ch))] : List (Str × Val)).lookup m = none) : eMeth "Diagrams" m f a r env = .ok y := by
  unfold eMeth
  rw [ha]
  show (if ("Diagrams" : Str) = "Diagrams" ∧ (([("_count", .int (d.c : Int)), ("_nodes", .lst (nodesV d.ns)), ("_numbers", .dcT (numsV 2 (d.ns.map key))), ("_choices", .dcT (chV d.ch))] : List (Str × Val)).lookup m).isNone = true then (r env).bind fun xs => (f (d.v :: xs)).res else .bad) = _
  rw [if_pos ⟨rfl, by rw [hn]; rfl⟩, hr]
  show (f (d.v :: xs)).res = _
  rw [hf]
  rfl
end
theorem nodes_len (ns : List Tri) : (nodesV ns).length = ns.length + 2 := by unfold nodesV; simp
theorem nodes_ix {ns : List Tri} {j : Nat} {k : Tri} (h : ns[j]? = some k) : vIx (.lst (nodesV ns)) (.int ((j + 2 : Nat) : Int)) = .ok (triV k) := by
  rw [vIx_lst, atI_nat]
  show Res.ofOpt ((ns.map triV)[j]?) = _
  rw [List.getElem?_map, h]
  rfl
theorem tri_ix (k : Tri) : vIx (triV k) (.int 0) = .ok (.int (k.1 : Int)) ∧ vIx (triV k) (.int 1) = .ok (.int (k.2.1 : Int)) ∧ vIx (triV k) (.int 2) = .ok (.int (k.2.2 : Int)) := ⟨rfl, rfl, rfl⟩
theorem key_st (k : Tri) : st_Diagrams (key k) = false := rfl
theorem num_in (d : DG) (k : Tri) : vNotInT (some st_Diagrams) (triV k) (.dcT (numsV 2 (d.ns.map key))) = .ok (.bl (!decide (k ∈ d.ns))) := by
  unfold vNotInT vInT
  show rNot (match keysOf (ndV (key k)) with
    | some ks => if hasK (some st_Diagrams) ks = true then Res.bad else Res.ok (Val.bl (getK (numsV 2 (d.ns.map key)) ks).isSome)
    | none => .bad) = _
  rw [keysOf_ndV]
  show rNot (if st_Diagrams (key k) = true then Res.bad else Res.ok (Val.bl (getK (numsV 2 (d.ns.map key)) (key k)).isSome)) = _
  rw [if_neg (by rw [key_st]; simp), numsV_get]
  by_cases h : k ∈ d.ns
  · rw [if_pos (key_mem.mpr h), decide_eq_true h]; rfl
  · rw [if_neg (fun z => h (key_mem.mp z)), decide_eq_false h]; rfl
theorem num_ix (ns : List Tri) (k : Tri) (h : k ∈ ns) : vIxT (some st_Diagrams) (.dcT (numsV 2 (ns.map key))) (triV k) = .ok (.int ((ns.idxOf k + 2 : Nat) : Int)) := by
  unfold vIxT
  show (match keysOf (ndV (key k)) with
    | some ks => if hasK (some st_Diagrams) ks = true then Res.bad else Res.ofOpt (getK (numsV 2 (ns.map key)) ks)
    | none => .bad) = _
  rw [keysOf_ndV]
  show (if st_Diagrams (key k) = true then Res.bad else Res.ofOpt (getK (numsV 2 (ns.map key)) (key k))) = _
  rw [if_neg (by rw [key_st]; simp), numsV_get, if_pos (key_mem.mpr h), key_idx, Nat.add_comm]
  rfl
theorem ch_in (ch : List (Tri × Nat)) (k : Tri) : vNotInT (some st_Diagrams) (triV k) (.dcT (chV ch)) = .ok (.bl (look ch k).isNone) := by
  unfold vNotInT vInT
  show rNot (match keysOf (ndV (key k)) with
    | some ks => if hasK (some st_Diagrams) ks = true then Res.bad else Res.ok (Val.bl (getK (chV ch) ks).isSome)
    | none => .bad) = _
  rw [keysOf_ndV]
  show rNot (if st_Diagrams (key k) = true then Res.bad else Res.ok (Val.bl (getK (chV ch) (key k)).isSome)) = _
  rw [if_neg (by rw [key_st]; simp), getK_ch]
  cases look ch k <;> rfl
theorem ch_ix (ch : List (Tri × Nat)) (k : Tri) (r : Nat) (h : look ch k = some r) : vIxT (some st_Diagrams) (.dcT (chV ch)) (triV k) = .ok (.int (r : Int)) := by
  unfold vIxT
  show (match keysOf (ndV (key k)) with
    | some ks => if hasK (some st_Diagrams) ks = true then Res.bad else Res.ofOpt (getK (chV ch) ks)
    | none => .bad) = _
  rw [keysOf_ndV]
  show (if st_Diagrams (key k) = true then Res.bad else Res.ofOpt (getK (chV ch) (key k))) = _
  rw [if_neg (by rw [key_st]; simp), getK_ch, h]
  rfl
end Dia
theorem eChain_ok {f g : Val → Val → Res Val} {a b c : EX} {env : Env} {x y z w : Val} (ha : a env = .ok x) (hb : b env = .ok y) (hf : f x y = .ok (.bl true)) (hc : c env = .ok z) (hg : g y z = .ok w) : eChain f g a b c env = .ok w := by
  unfold eChain
  rw [ha]
  show (b env).bind _ = _
  rw [hb]
  show ((f x y).bind fun z => (asBl z).bind fun k => bif k then (c env).bind fun w => g y w else Res.ok (Val.bl false)) = _
  rw [hf]
  show ((c env).bind fun w => g y w) = _
  rw [hc]
  exact hg
namespace Lib
open Dia
theorem dcheck_ok (d : DG) (xs : List Nat) (h : ∀ x ∈ xs, x < d.ns.length + 2) : f_Diagrams__check [d.v, .lst (xs.map iv)] = .ret .non := by
  refine defn_ret rfl ?_
  unfold m_Diagrams__check m_Diagrams__check_a_F
  refine Ok_for (xs := xs.map iv) rfl ?_
  refine forL_ok _ (fun i env => ∃ s2, env = [.sh d.v, .sh (.lst (xs.map iv)), s2]) _ ⟨_, rfl⟩ ?_ ?_
  · rintro i hi env ⟨s2, rfl⟩
    rw [List.length_map] at hi
    rw [List.getElem_map]
    refine ⟨_, rfl, ?_⟩
    have hx := h xs[i] (List.getElem_mem hi)
    let E : Env := [.sh d.v, .sh (.lst (xs.map iv)), .sh (iv xs[i])]
    show Ok (m_Diagrams__check_a_L E) _ _ _ _
    unfold m_Diagrams__check_a_L
    have hn : eArgs vLen (aCons (eFld "Diagrams" "_nodes" (eVar 0)) aNil) E = .ok (.int ((d.ns.length + 2 : Nat) : Int)) := by
      unfold eArgs
      rw [aCons_ok (dg_nodes (d := d) (a := eVar 0) rfl) rfl]
      show vLen [.lst _] = _
      rw [vLen_lst, nodes_len]
    have hc : bVal (eChain vLe vLt (eC (.int 0)) (eVar 2) (eArgs vLen (aCons (eFld "Diagrams" "_nodes" (eVar 0)) aNil))) E = .ok true := by
      have h1 : (0 : Int) ≤ (xs[i] : Int) := Int.natCast_nonneg _
      have h2 : (xs[i] : Int) < ((d.ns.length + 2 : Nat) : Int) := Int.ofNat_lt.mpr hx
      refine bVal_ok (eChain_ok (x := .int 0) (y := .int (xs[i] : Int)) rfl rfl ?_ hn ?_)
      · show Res.ok (Val.bl (decide ((0 : Int) ≤ (xs[i] : Int)))) = _
        rw [decide_eq_true h1]
      · show Res.ok (Val.bl (decide ((xs[i] : Int) < ((d.ns.length + 2 : Nat) : Int)))) = _
        rw [decide_eq_true h2]
    rw [sIf_no (bNot_ok hc)]
    show Ok (.next E) _ _ _ _
    rw [Ok_next]
    exact ⟨_, rfl⟩
  · rintro env ⟨s2, rfl⟩
    rfl
def DG.put (d : DG) (ns : List Tri) : DG := { d with ns := ns }
theorem dfound_ok (d : DG) (hl : d.ns.length < 16000000) (v lo hi : Nat) : f_Diagrams__found d.tr [.int (v : Int), .int (lo : Int), .int (hi : Int)] = .ret (.int ((foundD d.ns (v, lo, hi)).1 : Int)) (DG.put d (foundD d.ns (v, lo, hi)).2).tr := by
  refine defnM_retE rfl rfl ?_
  let k : Tri := (v, lo, hi)
  let E : Tr → Slot → Env := fun t z => [.me t, .sh (.int (v : Int)), .sh (.int (lo : Int)), .sh (.int (hi : Int)), z]
  show ∃ e, m_Diagrams__found (E d.tr .un) = _ ∧ _
  have v2 : eVar 2 (E d.tr .un) = .ok (.int (lo : Int)) := rfl
  have v3 : eVar 3 (E d.tr .un) = .ok (.int (hi : Int)) := rfl
  unfold foundD
  by_cases he : lo = hi
  · rw [if_pos (show k.2.1 = k.2.2 from he)]
    exact ⟨_, seqIf_ret ((eqI v2 v3).trans (by rw [decide_eq_true (by omega)])) (sRet_ok v2), rfl⟩
  rw [if_neg (show ¬ k.2.1 = k.2.2 from he)]
  have s0 : m_Diagrams__found (E d.tr .un) = m_Diagrams__found_1 (E d.tr .un) := seqIf_no ((eqI v2 v3).trans (by rw [decide_eq_false (by omega)]))
  have s1 : m_Diagrams__found_1 (E d.tr .un) = m_Diagrams__found_2 (E d.tr (.sh (triV k))) := seq_ok (sSet_ok (x := triV k) rfl (by show 4 < 5; omega))
  rw [s0, s1]
  have nin : bVal (Vm.e2 (vNotInT (some st_Diagrams)) (eVar 4) (eFld "Diagrams" "_numbers" (eVar 0))) (E d.tr (.sh (triV k))) = .ok (!decide (k ∈ d.ns)) := bVal_ok (e2_ok (x := triV k) rfl (dg_numbers (dg0 d _)) (num_in d k))
  by_cases hm : k ∈ d.ns
  · rw [if_pos hm]
    rw [decide_eq_true hm] at nin
    have s2 : m_Diagrams__found_2 (E d.tr (.sh (triV k))) = m_Diagrams__found_3 (E d.tr (.sh (triV k))) := seq_ok (sIf_no nin)
    rw [s2]
    exact ⟨_, sRet_ok (e2_ok (dg_numbers (dg0 d _)) rfl (num_ix d.ns k hm)), rfl⟩
  · rw [if_neg hm]
    rw [decide_eq_false hm] at nin
    let t1 : Tr := dgT d.c (nodesT d.ns) (numsT 2 ((d.ns ++ [k]).map key)) (chT d.ch)
    let d' := DG.put d (d.ns ++ [k])
    let E0 := E d.tr (.sh (triV k))
    have ep : sAtPutN (some st_Diagrams) (.fl (.s 0) "Diagrams" "_numbers") (eVar 4) (eArgs vLen (aCons (eFld "Diagrams" "_nodes" (eVar 0)) aNil)) E0 = .next (E t1 (.sh (triV k))) := by
      have el : (eArgs vLen (aCons (eFld "Diagrams" "_nodes" (eVar 0)) aNil)) E0 = .ok (.int ((d.ns.length + 2 : Nat) : Int)) := by
        unfold eArgs
        rw [aCons_ok (dg_nodes (dg0 d _)) rfl]
        show vLen [.lst _] = _
        rw [vLen_lst, nodes_len]
      unfold sAtPutN
      rw [el]
      have pa : plAt (.fl (.s 0) "Diagrams" "_numbers") E0 = .ok (0, [.fl "_numbers"], .dT (numsT 2 (d.ns.map key))) := rfl
      show ((plAt (.fl (.s 0) "Diagrams" "_numbers") E0).nx.flow E0 fun q => ((eVar 4) E0).flow E0 fun k' => putAt (some st_Diagrams) q (.int ((d.ns.length + 2 : Nat) : Int)) k' E0) = _
      rw [pa]
      show putAt (some st_Diagrams) (0, [.fl "_numbers"], .dT (numsT 2 (d.ns.map key))) (.int ((d.ns.length + 2 : Nat) : Int)) (ndV (key k)) E0 = _
      unfold putAt
      show (match keysOf (ndV (key k)) with
        | some ks => if (numsT 2 (d.ns.map key)).length < 16777216 ∧ hasK (some st_Diagrams) ks = false then putPl E0 0 [.fl "_numbers"] (.dT (putDt (numsT 2 (d.ns.map key)) ks (.v (.int ((d.ns.length + 2 : Nat) : Int))))) else .bad
        | none => .bad) = _
      rw [keysOf_ndV]
      show (if (numsT 2 (d.ns.map key)).length < 16777216 ∧ st_Diagrams (key k) = false then putPl E0 0 [.fl "_numbers"] (.dT (putDt (numsT 2 (d.ns.map key)) (key k) (.v (.int ((d.ns.length + 2 : Nat) : Int))))) else .bad) = _
      have pd : putDt (numsT 2 (d.ns.map key)) (key k) (.v (.int ((d.ns.length + 2 : Nat) : Int))) = numsT 2 ((d.ns ++ [k]).map key) := by
        unfold putDt
        rw [numsT_any, decide_eq_false (fun z => hm (key_mem.mp z)), if_neg (by simp), List.map_append, List.map_singleton, ← numsT_snoc, List.length_map, Nat.add_comm 2]
      rw [if_pos ⟨by rw [numsT_len, List.length_map]; omega, key_st k⟩, pd]
      rfl
    have ea : sAtApp (.fl (.s 0) "Diagrams" "_nodes") (eVar 4) (E t1 (.sh (triV k))) = .next (E d'.tr (.sh (triV k))) := by
      unfold sAtApp
      have pa : plAt (.fl (.s 0) "Diagrams" "_nodes") (E t1 (.sh (triV k))) = .ok (0, [.fl "_nodes"], .l (nodesT d.ns)) := rfl
      rw [pa]
      show (if (nodesT d.ns).length < 16777216 then putPl (E t1 (.sh (triV k))) 0 [.fl "_nodes"] (.l (nodesT d.ns ++ [.v (triV k)])) else .bad) = _
      have hlen : (nodesT d.ns).length = d.ns.length + 2 := by unfold nodesT; simp
      rw [if_pos (by rw [hlen]; omega)]
      have : nodesT d.ns ++ [.v (triV k)] = nodesT (d.ns ++ [k]) := by unfold nodesT; rw [List.map_append]; rfl
      rw [this]
      rfl
    have s2 : m_Diagrams__found_2 E0 = m_Diagrams__found_3 (E d'.tr (.sh (triV k))) := by
      refine seq_ok ((sIf_yes nin).trans ?_)
      show ((sAtPutN _ _ _ _ E0).bind m_Diagrams__found_c_1) = _
      rw [ep]
      exact ea
    show ∃ e, m_Diagrams__found_2 E0 = _ ∧ _
    rw [s2]
    have ix := num_ix (d.ns ++ [k]) k (by simp)
    have hi : (d.ns ++ [k]).idxOf k = d.ns.length := by
      rw [List.idxOf_append, if_neg hm]
      simp
    rw [hi] at ix
    exact ⟨_, sRet_ok (e2_ok (dg_numbers (dg0 d' _)) rfl ix), rfl⟩
end Lib
end Vm
end
noncomputable section
namespace Vm
open PySem
theorem maxL_specD : ∀ (l : List Int) (m : Int), maxL m l ∈ m :: l ∧ ∀ x ∈ m :: l, x ≤ maxL m l
  | [], m => ⟨List.mem_singleton.mpr rfl, fun x hx => by rw [List.mem_singleton.mp hx]; exact Int.le_refl _⟩
  | y :: l, m => by
    obtain ⟨h1, h2⟩ := maxL_specD l (if y > m then y else m)
    show maxL (if y > m then y else m) l ∈ _ ∧ ∀ x ∈ _, x ≤ maxL (if y > m then y else m) l
    have hm : (if y > m then y else m) ≤ maxL (if y > m then y else m) l := h2 _ List.mem_cons_self
    refine ⟨?_, fun x hx => ?_⟩
    · rcases List.mem_cons.mp h1 with e | e
      · rw [e]
        split
        · exact List.mem_cons_of_mem _ List.mem_cons_self
        · exact List.mem_cons_self
      · exact List.mem_cons_of_mem _ (List.mem_cons_of_mem _ e)
    · rcases List.mem_cons.mp hx with e | hx
      · rw [e]
        refine Int.le_trans ?_ hm
        split <;> omega
      rcases List.mem_cons.mp hx with e | hx
      · rw [e]
        refine Int.le_trans ?_ hm
        split <;> omega
      · exact h2 x (List.mem_cons_of_mem _ hx)
theorem vMax_list (l : List Int) (h : l ≠ []) : ∃ m ∈ l, vMax [.lst (l.map .int)] = .ok (.int m) ∧ ∀ x ∈ l, x ≤ m := by
  obtain ⟨a, r, rfl⟩ := List.exists_cons_of_ne_nil h
  obtain ⟨h1, h2⟩ := maxL_specD r a
  refine ⟨_, h1, ?_, h2⟩
  show (Res.ofOpt (intsOf ((a :: r).map .int))).bind _ = _
  rw [intsOf_map]
  rfl
theorem sAppendM_ok {i : Nat} {a : EM} {env e : Env} {x : Val} {p q : List Val} (h0 : env[i]? = some (.oL p)) (h : a env = .ok x e) (h1 : e[i]? = some (.oL q)) (hl : q.length < 16777216) : sAppendM i a env = .next (e.set i (.oL (q ++ [x]))) := by
  unfold sAppendM
  rw [h0]
  show (a env).flow _ = _
  rw [h]
  show (match e[i]? with
    | some (.oL xs) => if xs.length < 16777216 then Flow.next (e.set i (.oL (xs ++ [x]))) else .bad
    | _ => .bad) = _
  rw [h1]
  show (if q.length < 16777216 then _ else _) = _
  rw [if_pos hl]
namespace Lib
open Dia
theorem dtop_ok (d : DG) (hl : d.ns.length < 16000000) (xs : List Nat) (hx3 : xs.length ≤ 3) (hv : ∀ x ∈ xs, x < d.ns.length + 2) (h2 : ∃ x ∈ xs, 2 ≤ x) : ∃ v : Nat, f_Diagrams__top [d.v, .lst (xs.map iv)] = .ret (.int (v : Int)) ∧ (∀ x ∈ xs, lev d.ns x ≤ v + 1) ∧ ∃ x ∈ xs, 2 ≤ x ∧ lev d.ns x = v + 1 := by
  let L : List Int := (xs.filter fun x => decide (1 < x)).map fun x => ((lev d.ns x - 1 : Nat) : Int)
  have hL : L ≠ [] := by
    obtain ⟨x, hx, hx2⟩ := h2
    intro z
    have := List.map_eq_nil_iff.mp z
    have hm : x ∈ xs.filter fun x => decide (1 < x) := List.mem_filter.mpr ⟨hx, by simp; omega⟩
    rw [this] at hm
    cases hm
  obtain ⟨m, hm, hvm, hmx⟩ := vMax_list L hL
  obtain ⟨y, hy, hym⟩ := List.mem_map.mp hm
  obtain ⟨hy1, hy2⟩ := List.mem_filter.mp hy
  have hy2 : 2 ≤ y := by simp at hy2; omega
  have levp : ∀ x ∈ xs, 2 ≤ x → 1 ≤ lev d.ns x := fun x hx hx2 => by
    obtain ⟨j, k, rfl, hk⟩ := node_of hx2 (hv x hx)
    rw [lev_node hk]
    omega
  refine ⟨lev d.ns y - 1, ?_, fun x hx => ?_, y, hy1, hy2, by have := levp y hy1 hy2; omega⟩
  · refine defn_ret rfl ?_
    let E : Env := [.sh d.v, .sh (.lst (xs.map iv)), .un]
    show Ok (m_Diagrams__top E) _ _ _ _
    unfold m_Diagrams__top
    have ec : e_Diagrams__top_1 E = .ok (.lst (L.map .int)) := by
      unfold e_Diagrams__top_1
      have hi : iSeq (eVar 1) E = .ok (xs.map iv) := rfl
      rw [eComp_ok iv (fun x => decide (1 < x)) (fun x => .int ((lev d.ns x - 1 : Nat) : Int)) xs hi (by omega)]
      · show _ = Res.ok (Val.lst (((xs.filter _).map _).map _))
        rw [List.map_map]
        rfl
      · intro x hx
        let F : Env := [.sh d.v, .sh (.lst (xs.map iv)), .sh (iv x)]
        refine ⟨F, rfl, ?_, fun hp => ?_⟩
        · refine bVal_ok (e2_ok (x := iv x) (y := .int 1) rfl rfl ?_)
          show Res.ok (Val.bl (decide ((x : Int) > 1))) = _
          congr 2
          rw [decide_eq_decide]
          omega
        · have hx2 : 2 ≤ x := by simp at hp; omega
          obtain ⟨j, k, rfl, hk⟩ := node_of hx2 (hv x hx)
          refine (e2_ok (e2_ok (dg_nodes (d := d) (a := eVar 0) rfl) (y := .int ((j + 2 : Nat) : Int)) rfl (nodes_ix hk)) rfl (tri_ix k).1).trans ?_
          rw [lev_node hk]
          rfl
    have : eArgs vMax (aCons e_Diagrams__top_1 aNil) E = .ok (.int ((lev d.ns y - 1 : Nat) : Int)) := by
      unfold eArgs
      rw [aCons_ok ec rfl]
      show vMax [.lst (L.map .int)] = _
      rw [hvm, ← hym]
    rw [sRet_ok this, Ok_ret]
  · by_cases hx2 : 2 ≤ x
    · have h1 : ((lev d.ns x - 1 : Nat) : Int) ∈ L := List.mem_map.mpr ⟨x, List.mem_filter.mpr ⟨hx, by simp; omega⟩, rfl⟩
      have h3 := hmx _ h1
      have := levp x hx hx2
      have := levp y hy1 hy2
      rw [← hym] at h3
      omega
    · rw [lev_term _ (by omega)]; omega
theorem dside_ok (d : DG) (i v : Nat) (b : Bool) (hi : i < d.ns.length + 2) : f_Diagrams__side [d.v, iv i, iv v, .int (b2i b)] = .ret (iv (side d.ns i v b)) := by
  refine defn_ret rfl ?_
  let E : Env := [.sh d.v, .sh (iv i), .sh (iv v), .sh (.int (b2i b))]
  show Ok (m_Diagrams__side E) _ _ _ _
  have le : bVal (Vm.e2 vLe (eVar 1) (eC (.int 1))) E = .ok (decide ((i : Int) ≤ 1)) := bVal_ok (e2_ok (x := iv i) rfl rfl rfl)
  unfold side
  by_cases h2 : i < 2
  · rw [if_pos h2]
    have t : bOr (bVal (Vm.e2 vLe (eVar 1) (eC (.int 1)))) (bVal (Vm.e2 vNe (Vm.e2 vIx (Vm.e2 vIx (eFld "Diagrams" "_nodes" (eVar 0)) (eVar 1)) (eC (.int 0))) (eVar 2))) E = .ok true := by
      unfold bOr
      rw [le, decide_eq_true (by omega)]
      rfl
    have := seqIf_ret (A := sRet (eVar 1)) (B := m_Diagrams__side_1) t (sRet_ok (x := iv i) (env := E) rfl)
    show Ok ((sSeq (sIf _ (sRet (eVar 1)) sNext) m_Diagrams__side_1) E) _ _ _ _
    rw [this, Ok_ret]
  · rw [if_neg h2]
    obtain ⟨j, k, rfl, hk⟩ := node_of (by omega) hi
    rw [Nat.add_sub_cancel, hk]
    have nd : Vm.e2 vIx (eFld "Diagrams" "_nodes" (eVar 0)) (eVar 1) E = .ok (triV k) := e2_ok (dg_nodes (d := d) (a := eVar 0) rfl) (y := .int ((j + 2 : Nat) : Int)) rfl (nodes_ix hk)
    have t : bOr (bVal (Vm.e2 vLe (eVar 1) (eC (.int 1)))) (bVal (Vm.e2 vNe (Vm.e2 vIx (Vm.e2 vIx (eFld "Diagrams" "_nodes" (eVar 0)) (eVar 1)) (eC (.int 0))) (eVar 2))) E = .ok (decide (k.1 ≠ v)) := by
      unfold bOr
      rw [le, decide_eq_false (by omega)]
      show bVal _ E = _
      refine (bVal_ok (neI (i := (k.1 : Int)) (j := (v : Int)) (e2_ok nd rfl (tri_ix k).1) rfl)).trans ?_
      congr 1
      rw [decide_eq_decide]
      omega
    by_cases hkv : k.1 = v
    · rw [decide_eq_false (by simpa using hkv)] at t
      have s0 : m_Diagrams__side E = m_Diagrams__side_1 E := seqIf_no t
      rw [s0]
      have bit : Vm.e2 vAdd (eC (.int 1)) (eVar 3) E = .ok (.int (1 + b2i b)) := e2_ok rfl rfl (vAdd_int _ _)
      have r : m_Diagrams__side_1 E = .ret (iv (if b then k.2.2 else k.2.1)) E := by
        cases b
        · exact sRet_ok (e2_ok nd bit (tri_ix k).2.1)
        · exact sRet_ok (e2_ok nd bit (tri_ix k).2.2)
      rw [r, Ok_ret]
      show _ = iv (if k.1 = v then (if b then k.2.2 else k.2.1) else j + 2)
      rw [if_pos hkv]
    · rw [decide_eq_true hkv] at t
      have := seqIf_ret (A := sRet (eVar 1)) (B := m_Diagrams__side_1) t (sRet_ok (x := iv (j + 2)) (env := E) rfl)
      show Ok ((sSeq (sIf _ (sRet (eVar 1)) sNext) m_Diagrams__side_1) E) _ _ _ _
      rw [this, Ok_ret]
      show _ = iv (if k.1 = v then (if b then k.2.2 else k.2.1) else j + 2)
      rw [if_neg hkv]
structure GD (d : DG) : Prop where
  wd : WD d.c d.ns
  chs : ∀ p ∈ d.ch, p.1.1 < d.ns.length + 2 ∧ p.1.2.1 < d.ns.length + 2 ∧ p.1.2.2 < d.ns.length + 2 ∧ Spec d.ns p.1.1 p.1.2.1 p.1.2.2 p.2
structure Grows (d d' : DG) (m : Nat) : Prop where
  c : d'.c = d.c
  ns : ∃ more, d'.ns = d.ns ++ more ∧ more.length ≤ m
  ch : d'.ch.length ≤ d.ch.length + m
  ks : ∀ k, (look d.ch k).isSome = true → (look d'.ch k).isSome = true
theorem Grows.refl (d : DG) (m : Nat) : Grows d d m := ⟨rfl, ⟨[], (List.append_nil _).symm, Nat.zero_le _⟩, Nat.le_add_right _ _, fun _ h => h⟩
theorem Grows.trans {a b c : DG} {m n : Nat} (h : Grows a b m) (h' : Grows b c n) : Grows a c (m + n) := by
  obtain ⟨x, hx, lx⟩ := h.ns
  obtain ⟨y, hy, ly⟩ := h'.ns
  exact ⟨h'.c.trans h.c, ⟨x ++ y, by rw [hy, hx, List.append_assoc], by rw [List.length_append]; omega⟩, by have := h.ch; have := h'.ch; omega, fun k z => h'.ks k (h.ks k z)⟩
theorem Grows.le {a b : DG} {m : Nat} (h : Grows a b m) : a.ns.length ≤ b.ns.length ∧ b.ns.length ≤ a.ns.length + m := by
  obtain ⟨x, hx, lx⟩ := h.ns
  rw [hx, List.length_append]
  omega
theorem Grows.mono {a b : DG} {m n : Nat} (h : Grows a b m) (hm : m ≤ n) : Grows a b n := by
  obtain ⟨x, hx, lx⟩ := h.ns
  exact ⟨h.c, ⟨x, hx, Nat.le_trans lx hm⟩, by have := h.ch; omega, h.ks⟩
theorem Grows.lev {a b : DG} {m : Nat} (h : Grows a b m) {i : Nat} (hi : i < a.ns.length + 2) : lev b.ns i = lev a.ns i := by
  obtain ⟨x, hx, _⟩ := h.ns
  rw [hx, lev_ext a.ns x hi]
theorem Grows.val {a b : DG} {m : Nat} (h : Grows a b m) (ga : GD a) (gb : GD b) {i : Nat} (hi : i < a.ns.length + 2) (ρ : Nat → Bool) : Dia.val b.ns i ρ = Dia.val a.ns i ρ := by
  obtain ⟨x, hx, _⟩ := h.ns
  have w := gb.wd
  rw [hx] at w ⊢
  rw [h.c] at w
  exact val_ext ga.wd w _ i ρ (Nat.lt_succ_self _) hi
theorem Grows.spec {a b : DG} {m : Nat} (h : Grows a b m) (ga : GD a) (wb : WD b.c b.ns) {f g k r : Nat} (s : Spec a.ns f g k r) (hf : f < a.ns.length + 2) (hg : g < a.ns.length + 2) (hk : k < a.ns.length + 2) : Spec b.ns f g k r := by
  obtain ⟨x, hx, _⟩ := h.ns
  have w := wb
  rw [hx] at w ⊢
  rw [h.c] at w
  exact s.ext ga.wd w hf hg hk
end Lib
end Vm
end
noncomputable section
namespace Vm
open PySem
namespace Lib
open Dia
theorem spec_g {ns : List Tri} {f g h : Nat} (hg : g < ns.length + 2) (c : (∀ ρ, val ns f ρ = true) ∨ g = h) : Spec ns f g h g := by
  refine ⟨hg, by omega, fun ρ => ?_⟩
  rcases c with c | c
  · rw [c ρ, if_pos rfl]
  · subst c
    split <;> rfl
theorem spec_h {ns : List Tri} {f g h : Nat} (hh : h < ns.length + 2) (c : ∀ ρ, val ns f ρ = false) : Spec ns f g h h := by
  refine ⟨hh, by omega, fun ρ => ?_⟩
  rw [c ρ]
  rfl
theorem lev_c {c : Nat} {ns : List Tri} (w : WD c ns) {x v : Nat} (h2 : 2 ≤ x) (hx : x < ns.length + 2) (h : lev ns x = v + 1) : v < c := by
  obtain ⟨j, k, rfl, hk⟩ := node_of h2 hx
  rw [lev_node hk] at h
  obtain ⟨_, _, _, d, _⟩ := w.kid _ k hk
  omega
/-- asked before, or plain -/
def Known (d : DG) (f g h : Nat) : Prop := f = 1 ∨ g = h ∨ f = 0 ∨ (look d.ch (f, g, h)).isSome = true
theorem look_keep (ch : List (Tri × Nat)) (k k' : Tri) (r : Nat) (h : (look ch k').isSome = true) : (look (putC ch k r) k').isSome = true := by
  by_cases e : k' = k
  · subst e
    rw [look_put]
    rfl
  unfold look at h ⊢
  rw [Option.isSome_map, List.find?_isSome] at h ⊢
  obtain ⟨x, hx, hk⟩ := h
  unfold putC
  split
  · refine ⟨x, List.mem_map.mpr ⟨x, hx, if_neg fun z => ?_⟩, hk⟩
    rw [decide_eq_true_eq] at hk
    exact e (hk.symm.trans z)
  · exact ⟨x, List.mem_append_left _ hx, hk⟩
theorem chosen_ok : ∀ (n : Nat) (d : DG) (k : Nat) (f g h : Nat), GD d → f < d.ns.length + 2 → g < d.ns.length + 2 → h < d.ns.length + 2 → lev d.ns f ≤ n → lev d.ns g ≤ n → lev d.ns h ≤ n → d.ns.length + 2 ^ n ≤ 15000000 → d.ch.length + 2 ^ n ≤ 15000000 → n < k →
    ∃ (r : Nat) (d' : DG), fr_Diagrams__chosen k d.tr [iv f, iv g, iv h] = .ret (iv r) d'.tr ∧ GD d' ∧ Grows d d' (2 ^ n - 1) ∧ Spec d'.ns f g h r ∧ Known d' f g h := by
  intro n
  induction n with
  | zero =>
    intro d k f g h gd hf hg hh lf lg lh b1 b2 hk
    obtain ⟨k', rfl⟩ : ∃ k', k = k' + 1 := ⟨k - 1, by omega⟩
    have hf2 : f < 2 := by
      by_cases h2 : f < 2
      · exact h2
      · obtain ⟨j, q, rfl, hq⟩ := node_of (by omega) hf
        rw [lev_node hq] at lf
        omega
    rw [fr_Diagrams__chosen]
    let E : Env := [.me d.tr, .sh (iv f), .sh (iv g), .sh (iv h), .un, .un, .un, .un, .un]
    have v1 : eVar 1 E = .ok (.int (f : Int)) := rfl
    have v2 : eVar 2 E = .ok (.int (g : Int)) := rfl
    have v3 : eVar 3 E = .ok (.int (h : Int)) := rfl
    have c0 : ∀ z : Int, eC (.int z) E = .ok (.int z) := fun _ => rfl
    have q : bOr (bVal (Vm.e2 vEq (eVar 1) (eC (.int 1)))) (bVal (Vm.e2 vEq (eVar 2) (eVar 3))) E = .ok (decide (f = 1 ∨ g = h)) := (bOr_ok (eqI v1 (c0 1)) (eqI v2 v3)).trans (by
      congr 1
      rw [Bool.eq_iff_iff, Bool.or_eq_true, decide_eq_true_eq, decide_eq_true_eq, decide_eq_true_eq]
      omega)
    by_cases h1 : f = 1 ∨ g = h
    · refine ⟨g, d, defnM_retE rfl rfl ⟨E, seqIf_ret (q.trans (by rw [decide_eq_true h1])) (sRet_ok v2), rfl⟩, gd, Grows.refl d _, spec_g hg ?_, h1.elim .inl fun z => .inr (.inl z)⟩
      rcases h1 with e | e
      · exact .inl fun ρ => by rw [e]; rfl
      · exact .inr e
    · refine ⟨h, d, defnM_retE rfl rfl ⟨E, (seqIf_no (q.trans (by rw [decide_eq_false h1]))).trans (seqIf_ret ((eqI v1 (c0 0)).trans (by rw [decide_eq_true (by omega)])) (sRet_ok v3)), rfl⟩, gd, Grows.refl d _, spec_h hh fun ρ => ?_, .inr (.inr (.inl (by omega)))⟩
      have : f = 0 := by omega
      rw [this]
      rfl
  | succ n ih =>
    intro d k f g h gd hf hg hh lf lg lh b1 b2 hk
    obtain ⟨k', rfl⟩ : ∃ k', k = k' + 1 := ⟨k - 1, by omega⟩
    rw [fr_Diagrams__chosen]
    let R := fr_Diagrams__chosen k'
    let E : Tr → Slot → Slot → Slot → Slot → Env := fun t s4 s5 s6 s7 => [.me t, .sh (iv f), .sh (iv g), .sh (iv h), s4, s5, s6, s7, .un]
    let E0 : Env := E d.tr .un .un .un .un
    have v1 : eVar 1 E0 = .ok (.int (f : Int)) := rfl
    have v2 : eVar 2 E0 = .ok (.int (g : Int)) := rfl
    have v3 : eVar 3 E0 = .ok (.int (h : Int)) := rfl
    have c0 : ∀ z : Int, eC (.int z) E0 = .ok (.int z) := fun _ => rfl
    have q : bOr (bVal (Vm.e2 vEq (eVar 1) (eC (.int 1)))) (bVal (Vm.e2 vEq (eVar 2) (eVar 3))) E0 = .ok (decide (f = 1 ∨ g = h)) := (bOr_ok (eqI v1 (c0 1)) (eqI v2 v3)).trans (by
      congr 1
      rw [Bool.eq_iff_iff, Bool.or_eq_true, decide_eq_true_eq, decide_eq_true_eq, decide_eq_true_eq]
      omega)
    by_cases h1 : f = 1 ∨ g = h
    · refine ⟨g, d, defnM_retE rfl rfl ⟨E0, seqIf_ret (q.trans (by rw [decide_eq_true h1])) (sRet_ok v2), rfl⟩, gd, Grows.refl d _, spec_g hg ?_, h1.elim .inl fun z => .inr (.inl z)⟩
      rcases h1 with e | e
      · exact .inl fun ρ => by rw [e]; rfl
      · exact .inr e
    have s0 : m_Diagrams__chosen R E0 = m_Diagrams__chosen_1 R E0 := seqIf_no (q.trans (by rw [decide_eq_false h1]))
    by_cases h0 : f = 0
    · refine ⟨h, d, defnM_retE rfl rfl ⟨E0, s0.trans (seqIf_ret ((eqI v1 (c0 0)).trans (by rw [decide_eq_true (by omega)])) (sRet_ok v3)), rfl⟩, gd, Grows.refl d _, spec_h hh (fun ρ => by rw [h0]; rfl), .inr (.inr (.inl h0))⟩
    have s1 : m_Diagrams__chosen_1 R E0 = m_Diagrams__chosen_2 R E0 := seqIf_no ((eqI v1 (c0 0)).trans (by rw [decide_eq_false (by omega)]))
    let key3 : Tri := (f, g, h)
    have kv : ∀ t s4 s5 s6 s7, eArgs vTup (aCons (eVar 1) (aCons (eVar 2) (aCons (eVar 3) aNil))) (E t s4 s5 s6 s7) = .ok (triV key3) := fun _ _ _ _ _ => rfl
    have nin : bVal (Vm.e2 (vNotInT (some st_Diagrams)) (eArgs vTup (aCons (eVar 1) (aCons (eVar 2) (aCons (eVar 3) aNil)))) (eFld "Diagrams" "_choices" (eVar 0))) E0 = .ok (look d.ch key3).isNone := bVal_ok (e2_ok (kv _ _ _ _ _) (dg_choices (dg0 d _)) (ch_in d.ch key3))
    cases hlk : look d.ch key3 with
    | some r =>
      rw [hlk] at nin
      have s2 : m_Diagrams__chosen_2 R E0 = m_Diagrams__chosen_3 R E0 := seq_ok (sIf_no nin)
      obtain ⟨_, _, _, sp⟩ := gd.chs _ (Dia.look_mem hlk)
      exact ⟨r, d, defnM_retE rfl rfl ⟨E0, (s0.trans (s1.trans s2)).trans (sRet_ok (e2_ok (dg_choices (dg0 d _)) (kv _ _ _ _ _) (ch_ix d.ch key3 r hlk))), rfl⟩, gd, Grows.refl d _, sp, .inr (.inr (.inr (by rw [hlk]; rfl)))⟩
    | none =>
      rw [hlk] at nin
      have hf2 : 2 ≤ f := by
        have : f ≠ 1 := fun z => h1 (.inl z)
        omega
      have pw : 2 ^ (n + 1) = 2 * 2 ^ n := by rw [Nat.pow_succ]; omega
      have pw1 : 1 ≤ 2 ^ n := Nat.one_le_two_pow
      obtain ⟨v, ftop, vmx, x, hx, hx2, hxv⟩ := dtop_ok d (by omega) [f, g, h] (Nat.le_refl 3) (fun x hx => by
        simp only [List.mem_cons, List.not_mem_nil, or_false] at hx
        rcases hx with rfl | rfl | rfl <;> assumption) ⟨f, List.mem_cons_self, hf2⟩
      have vlf := vmx f (by simp)
      have vlg := vmx g (by simp)
      have vlh := vmx h (by simp)
      have hxl : x < d.ns.length + 2 := by
        simp only [List.mem_cons, List.not_mem_nil, or_false] at hx
        rcases hx with rfl | rfl | rfl <;> assumption
      have hvn : v ≤ n := by
        simp only [List.mem_cons, List.not_mem_nil, or_false] at hx
        rcases hx with rfl | rfl | rfl <;> omega
      have hvc : v < d.c := lev_c gd.wd hx2 hxl hxv
      have hmax : v + 1 ≤ max (lev d.ns f) (max (lev d.ns g) (lev d.ns h)) := by
        simp only [List.mem_cons, List.not_mem_nil, or_false] at hx
        rcases hx with rfl | rfl | rfl <;> omega
      let V : Slot := .sh (iv v)
      -- one side
      have step : ∀ (dd : DG) (b : Bool) (p : List Val) (s6 s7 : Slot), GD dd → Grows d dd (2 ^ n - 1) → p.length < 100 → dd.ns.length + 2 ^ n ≤ 15000000 → dd.ch.length + 2 ^ n ≤ 15000000 → ∃ (r : Nat) (d' : DG), m_Diagrams__chosen_cc_L R (E dd.tr V (.oL p) (.sh (.int (b2i b))) s7) = .next (E d'.tr V (.oL (p ++ [iv r])) (.sh (.int (b2i b))) (.sh (.lst ([side dd.ns f v b, side dd.ns g v b, side dd.ns h v b].map iv)))) ∧ GD d' ∧ Grows dd d' (2 ^ n - 1) ∧ Spec d'.ns (side dd.ns f v b) (side dd.ns g v b) (side dd.ns h v b) r ∧ lev d'.ns r ≤ v := by
        intro dd b p s6 s7 gdd gr hp bb1 bb2
        have ff : f < dd.ns.length + 2 := by have := gr.le; omega
        have fg : g < dd.ns.length + 2 := by have := gr.le; omega
        have fh : h < dd.ns.length + 2 := by have := gr.le; omega
        have lf' : lev dd.ns f ≤ v + 1 := by rw [gr.lev hf]; exact vlf
        have lg' : lev dd.ns g ≤ v + 1 := by rw [gr.lev hg]; exact vlg
        have lh' : lev dd.ns h ≤ v + 1 := by rw [gr.lev hh]; exact vlh
        let F1 : Env := E dd.tr V (.oL p) (.sh (.int (b2i b))) s7
        let ps : List Nat := [side dd.ns f v b, side dd.ns g v b, side dd.ns h v b]
        have ec : e_Diagrams__chosen_1 R F1 = .ok (.lst (ps.map iv)) := by
          unfold e_Diagrams__chosen_1
          have hi : iSeq (eArgs vTup (aCons (eVar 1) (aCons (eVar 2) (aCons (eVar 3) aNil)))) F1 = .ok ([f, g, h].map iv) := rfl
          rw [eComp_all iv (fun x => iv (side dd.ns x v b)) [f, g, h] hi (by show 3 ≤ _; omega)]
          · rfl
          · intro x hx
            have hxv : x < dd.ns.length + 2 := by
              simp only [List.mem_cons, List.not_mem_nil, or_false] at hx
              rcases hx with rfl | rfl | rfl <;> assumption
            refine ⟨[.me dd.tr, .sh (iv f), .sh (iv g), .sh (iv h), V, .oL p, .sh (.int (b2i b)), s7, .sh (iv x)], rfl, ?_⟩
            exact dg_meth (d := dd) (dg0 dd _) ⟨rfl, rfl⟩ (aCons_ok (x := iv x) rfl (aCons_ok (x := iv v) rfl (aCons_ok (x := .int (b2i b)) rfl rfl))) (dside_ok dd x v b hxv) rfl
        have u0 : m_Diagrams__chosen_cc_L R F1 = m_Diagrams__chosen_cc_1 R (E dd.tr V (.oL p) (.sh (.int (b2i b))) (.oL (ps.map iv))) := seq_ok (sOwnN_ok ec (by show 7 < 9; omega) rfl)
        have u1 : m_Diagrams__chosen_cc_1 R (E dd.tr V (.oL p) (.sh (.int (b2i b))) (.oL (ps.map iv))) = m_Diagrams__chosen_cc_2 R (E dd.tr V (.oL p) (.sh (.int (b2i b))) (.sh (.lst (ps.map iv)))) := seq_ok rfl
        have lv : ∀ x, x < dd.ns.length + 2 → lev dd.ns x ≤ v + 1 → lev dd.ns (side dd.ns x v b) ≤ v := fun x h1 h2 => side_lev gdd.wd h1 h2
        obtain ⟨r, d', fr, gd', gr', sp, _⟩ := ih dd k' (side dd.ns f v b) (side dd.ns g v b) (side dd.ns h v b) gdd (side_lt gdd.wd ff) (side_lt gdd.wd fg) (side_lt gdd.wd fh) (Nat.le_trans (lv f ff lf') hvn) (Nat.le_trans (lv g fg lg') hvn) (Nat.le_trans (lv h fh lh') hvn) bb1 bb2 (by omega)
        have hlr : lev d'.ns r ≤ v := by
          have := sp.lv
          rw [gr'.lev (side_lt gdd.wd ff), gr'.lev (side_lt gdd.wd fg), gr'.lev (side_lt gdd.wd fh)] at this
          have a1 := lv f ff lf'
          have a2 := lv g fg lg'
          have a3 := lv h fh lh'
          omega
        let F2 : Env := E dd.tr V (.oL p) (.sh (.int (b2i b))) (.sh (.lst (ps.map iv)))
        have i0 : Vm.e2 vIx (eVar 7) (eC (.int 0)) (hide F2) = .ok (iv (side dd.ns f v b)) := rfl
        have i1 : Vm.e2 vIx (eVar 7) (eC (.int 1)) (hide F2) = .ok (iv (side dd.ns g v b)) := rfl
        have i2 : Vm.e2 vIx (eVar 7) (eC (.int 2)) (hide F2) = .ok (iv (side dd.ns h v b)) := rfl
        have em : mMeth "Diagrams" "_chosen" 0 R (mCons (mH (Vm.e2 vIx (eVar 7) (eC (.int 0)))) (mCons (mH (Vm.e2 vIx (eVar 7) (eC (.int 1)))) (mCons (mH (Vm.e2 vIx (eVar 7) (eC (.int 2)))) mNil))) F2 = .ok (iv r) (E d'.tr V (.oL p) (.sh (.int (b2i b))) (.sh (.lst (ps.map iv)))) := mMeth0_ret rfl (mCons_ok (mH_ok i0) (mCons_ok (mH_ok i1) (mArg1 i2))) fr
        have u2 : m_Diagrams__chosen_cc_2 R F2 = .next (E d'.tr V (.oL (p ++ [iv r])) (.sh (.int (b2i b))) (.sh (.lst (ps.map iv)))) := sAppendM_ok (p := p) (q := p) rfl em rfl (by omega)
        exact ⟨r, d', u0.trans (u1.trans u2), gd', gr', sp, hlr⟩
      obtain ⟨r0, d1, e0, gd1, gr1, sp0, lv0⟩ := step d false [] .un .un gd (Grows.refl d _) (by show 0 < 100; omega) (by omega) (by omega)
      have gr1l := gr1.le
      have gr1c := gr1.ch
      obtain ⟨r1, d2, e1, gd2, gr2, sp1, lv1⟩ := step d1 true [iv r0] .un (.sh (.lst ([side d.ns f v false, side d.ns g v false, side d.ns h v false].map iv))) gd1 gr1 (by show 1 < 100; omega) (by omega) (by omega)
      have gr2l := gr2.le
      have gr2c := gr2.ch
      have gr12 := gr1.trans gr2
      have c1 : d1.c = d.c := gr1.c
      have c2 : d2.c = d.c := gr12.c
      have r0l : r0 < d2.ns.length + 2 := by have := sp0.lt; omega
      have r1l : r1 < d2.ns.length + 2 := sp1.lt
      obtain ⟨fw, ⟨more, hmore, lmore⟩, flt, flv, fvl⟩ := found_spec gd2.wd (k := (v, r0, r1)) r0l r1l (by show v < d2.c; omega) (by show lev d2.ns r0 ≤ v; rw [gr2.lev sp0.lt]; exact lv0) (by show lev d2.ns r1 ≤ v; exact lv1)
      let FR := foundD d2.ns (v, r0, r1)
      let d3 : DG := DG.put d2 FR.2
      have gr3 : Grows d2 d3 1 := ⟨rfl, ⟨more, hmore, lmore⟩, Nat.le_add_right _ _, fun _ h => h⟩
      have gr123 : Grows d d3 (2 ^ n - 1 + (2 ^ n - 1) + 1) := gr12.trans gr3
      have wd3 : WD d3.c d3.ns := fw
      have gd3 : GD d3 := ⟨wd3, fun p hp => by
        obtain ⟨a1, a2, a3, a4⟩ := gd2.chs p hp
        have := gr3.le
        exact ⟨by omega, by omega, by omega, gr3.spec gd2 wd3 a4 a1 a2 a3⟩⟩
      have sp3 : Spec d3.ns f g h FR.1 := by
        refine ⟨flt, ?_, fun ρ => ?_⟩
        · have h1 : lev d3.ns FR.1 ≤ v + 1 := flv
          rw [gr123.lev hf, gr123.lev hg, gr123.lev hh]
          omega
        · have hv3 : val d3.ns FR.1 ρ = val d2.ns (if ρ v then r1 else r0) ρ := fvl ρ
          rw [hv3, gr123.val gd gd3 hf, gr123.val gd gd3 hg, gr123.val gd gd3 hh]
          have sd : ∀ x, x < d.ns.length + 2 → val d.ns (side d.ns x v (ρ v)) ρ = val d.ns x ρ := fun x hx => side_val gd.wd hx ρ
          have sd1 : ∀ x, x < d.ns.length + 2 → val d1.ns (side d1.ns x v (ρ v)) ρ = val d.ns x ρ := fun x hx => (side_val gd1.wd (by omega) ρ).trans (gr1.val gd gd1 hx ρ)
          cases hb : ρ v with
          | false =>
            rw [hb] at sd
            show val d2.ns r0 ρ = _
            rw [gr2.val gd1 gd2 sp0.lt, sp0.vl ρ, gr1.val gd gd1 (side_lt gd.wd hf), gr1.val gd gd1 (side_lt gd.wd hg), gr1.val gd gd1 (side_lt gd.wd hh), sd f hf, sd g hg, sd h hh]
          | true =>
            rw [hb] at sd1
            show val d2.ns r1 ρ = _
            rw [sp1.vl ρ, gr2.val gd1 gd2 (side_lt gd1.wd (by omega)), gr2.val gd1 gd2 (side_lt gd1.wd (by omega)), gr2.val gd1 gd2 (side_lt gd1.wd (by omega)), sd1 f hf, sd1 g hg, sd1 h hh]
      let d4 : DG := { d3 with ch := putC d2.ch key3 FR.1 }
      have gd4 : GD d4 := ⟨wd3, fun p hp => by
        rcases putC_mem hp with hp | hp
        · exact gd3.chs p hp
        · subst hp
          have := gr123.le
          exact ⟨by show f < d3.ns.length + 2; omega, by show g < d3.ns.length + 2; omega, by show h < d3.ns.length + 2; omega, sp3⟩⟩
      have gr4 : Grows d d4 (2 ^ (n + 1) - 1) := by
        obtain ⟨m, hm, lm⟩ := gr123.ns
        refine ⟨gr123.c, ⟨m, hm, by omega⟩, ?_, fun k z => look_keep d2.ch key3 k _ (gr12.ks k z)⟩
        have h1 := gr12.ch
        have h2 := putC_len d2.ch key3 FR.1
        show (putC d2.ch key3 FR.1).length ≤ _
        omega
      have i3 : d3.ns.length ≤ 15000000 := by have := gr123.le; omega
      -- the code
      let P0 : Slot := .sh (.lst ([side d.ns f v false, side d.ns g v false, side d.ns h v false].map iv))
      let P1 : Slot := .sh (.lst ([side d1.ns f v true, side d1.ns g v true, side d1.ns h v true].map iv))
      have w0 : sSetN 4 (eMeth "Diagrams" "_top" f_Diagrams__top (eVar 0) (aCons (eArgs vLst (aCons (eVar 1) (aCons (eVar 2) (aCons (eVar 3) aNil)))) aNil)) E0 = .next (E d.tr V .un .un .un) :=
        sSetN_ok (dg_meth (d := d) (dg0 d _) ⟨rfl, rfl⟩ (aCons_ok (x := .lst ([f, g, h].map iv)) rfl rfl) ftop rfl) (by show 4 < 9; omega) rfl
      have w1 : m_Diagrams__chosen_c_1 R (E d.tr V .un .un .un) = m_Diagrams__chosen_c_2 R (E d.tr V (.oL []) .un .un) := seq_ok rfl
      have w2 : m_Diagrams__chosen_cc_F R (E d.tr V (.oL []) .un .un) = .next (E d2.tr V (.oL [iv r0, iv r1]) (.sh (iv 1)) P1) := by
        have itr : iRange1 (eC (.int 2)) (hide (E d.tr V (.oL []) .un .un)) = .ok [iv 0, iv 1] := (range1_ok (n := 2) rfl (by omega)).trans rfl
        unfold m_Diagrams__chosen_cc_F sFor
        rw [itr]
        show forL (pName 6) (m_Diagrams__chosen_cc_L R) [iv 0, iv 1] (E d.tr V (.oL []) .un .un) = _
        rw [forL_next (e := E d.tr V (.oL []) (.sh (.int (b2i false))) .un) rfl e0]
        rw [forL_next (e := E d1.tr V (.oL [iv r0]) (.sh (.int (b2i true))) P0) rfl e1]
        rfl
      have w3 : m_Diagrams__chosen_c_2 R (E d.tr V (.oL []) .un .un) = m_Diagrams__chosen_c_3 R (E d2.tr V (.oL [iv r0, iv r1]) (.sh (iv 1)) P1) := seq_ok w2
      let S5 : Slot := .sh (.lst [iv r0, iv r1])
      have w4 : m_Diagrams__chosen_c_3 R (E d2.tr V (.oL [iv r0, iv r1]) (.sh (iv 1)) P1) = m_Diagrams__chosen_c_4 R (E d2.tr V S5 (.sh (iv 1)) P1) := seq_ok rfl
      have fnd := dfound_ok d2 (by omega) v r0 r1
      have em : mMeth "Diagrams" "_found" 0 f_Diagrams__found (mCons (mH (eVar 4)) (mCons (mH (Vm.e2 vIx (eVar 5) (eC (.int 0)))) (mCons (mH (Vm.e2 vIx (eVar 5) (eC (.int 1)))) mNil))) (E d2.tr V S5 (.sh (iv 1)) P1) = .ok (iv FR.1) (E d3.tr V S5 (.sh (iv 1)) P1) :=
        mMeth0_ret rfl (mCons_ok (mH_ok (x := iv v) rfl) (mCons_ok (mH_ok (x := iv r0) rfl) (mArg1 (x := iv r1) rfl))) fnd
      let E3 : Env := E d3.tr V S5 (.sh (iv 1)) P1
      have w5 : m_Diagrams__chosen_c_4 R (E d2.tr V S5 (.sh (iv 1)) P1) = .next (E d4.tr V S5 (.sh (iv 1)) P1) := by
        unfold m_Diagrams__chosen_c_4 sAtPutM
        rw [em]
        have pa : plAt (.fl (.s 0) "Diagrams" "_choices") E3 = .ok (0, [.fl "_choices"], .dT (chT d2.ch)) := rfl
        show ((plAt (.fl (.s 0) "Diagrams" "_choices") E3).nx.flow E3 fun q => ((eArgs vTup (aCons (eVar 1) (aCons (eVar 2) (aCons (eVar 3) aNil)))) E3).flow E3 fun k' => putAt (some st_Diagrams) q (iv FR.1) k' E3) = _
        rw [pa]
        show putAt (some st_Diagrams) (0, [.fl "_choices"], .dT (chT d2.ch)) (iv FR.1) (ndV (key key3)) E3 = _
        unfold putAt
        show (match keysOf (ndV (key key3)) with
          | some ks => if (chT d2.ch).length < 16777216 ∧ hasK (some st_Diagrams) ks = false then putPl E3 0 [.fl "_choices"] (.dT (putDt (chT d2.ch) ks (.v (iv FR.1)))) else .bad
          | none => .bad) = _
        rw [keysOf_ndV]
        show (if (chT d2.ch).length < 16777216 ∧ st_Diagrams (key key3) = false then putPl E3 0 [.fl "_choices"] (.dT (putDt (chT d2.ch) (key key3) (.v (.int (FR.1 : Int))))) else .bad) = _
        have cl : (chT d2.ch).length < 16777216 := by unfold chT; rw [List.length_map]; omega
        rw [if_pos ⟨cl, key_st key3⟩, put_ch]
        rfl
      have s2 : m_Diagrams__chosen_2 R E0 = m_Diagrams__chosen_3 R (E d4.tr V S5 (.sh (iv 1)) P1) := by
        refine seq_ok ((sIf_yes nin).trans ?_)
        show ((sSetN 4 _ E0).bind (m_Diagrams__chosen_c_1 R)) = _
        rw [w0]
        show m_Diagrams__chosen_c_1 R (E d.tr V .un .un .un) = _
        rw [w1, w3, w4, w5]
      exact ⟨FR.1, d4, defnM_retE rfl rfl ⟨_, (s0.trans (s1.trans s2)).trans (sRet_ok (e2_ok (dg_choices (dg0 d4 _)) (kv _ _ _ _ _) (ch_ix _ key3 FR.1 (look_put d2.ch key3 FR.1)))), rfl⟩, gd4, gr4, sp3, .inr (.inr (.inr (by show (look (putC d2.ch key3 FR.1) key3).isSome = true; rw [look_put]; rfl)))⟩
end Lib
end Vm
end
noncomputable section
namespace Vm
open PySem
namespace Lib
open Dia
theorem lev_le {c : Nat} {ns : List Tri} (w : WD c ns) {x : Nat} (hx : x < ns.length + 2) : lev ns x ≤ c := by
  by_cases h2 : x < 2
  · rw [lev_term _ h2]; omega
  · obtain ⟨j, k, rfl, hk⟩ := node_of (by omega) hx
    rw [lev_node hk]
    obtain ⟨_, _, _, d, _⟩ := w.kid _ k hk
    omega
/-- a table that may still grow by m -/
structure OKD (d : DG) (m : Nat) : Prop where
  gd : GD d
  c5 : d.c ≤ 5
  n1 : d.ns.length + m ≤ 50000
  n2 : d.ch.length + m ≤ 50000
theorem OKD.step {d d' : DG} {m n : Nat} (h : OKD d (m + n)) (g : GD d') (gr : Grows d d' m) : OKD d' n :=
  ⟨g, by rw [gr.c]; exact h.c5, by have := gr.le; have := h.n1; omega, by have := gr.ch; have := h.n2; omega⟩
/-- an operation's answer -/
structure Op (d d' : DG) (m r : Nat) (φ : (Nat → Bool) → Bool) : Prop where
  gd : GD d'
  gr : Grows d d' m
  lt : r < d'.ns.length + 2
  vl : ∀ ρ, val d'.ns r ρ = φ ρ
theorem dchk_ok (d : DG) (xs : List Nat) (h : ∀ x ∈ xs, x < d.ns.length + 2) {a : EX} {r : Env} (ha : a (.me d.tr :: r) = .ok (.lst (xs.map iv))) : sDrop (eMeth "Diagrams" "_check" f_Diagrams__check (eVar 0) (aCons a aNil)) (.me d.tr :: r) = .next (.me d.tr :: r) :=
  sDrop_ok (dg_meth (d := d) (dg0 d _) ⟨rfl, rfl⟩ (aCons_ok ha rfl) (dcheck_ok d xs h) rfl)
theorem choose_ok (d : DG) (h0 : OKD d 31) (f g h : Nat) (hf : f < d.ns.length + 2) (hg : g < d.ns.length + 2) (hh : h < d.ns.length + 2) : ∃ r d', f_Diagrams_choose d.tr [iv f, iv g, iv h] = .ret (iv r) d'.tr ∧ Op d d' 31 r fun ρ => if val d.ns f ρ then val d.ns g ρ else val d.ns h ρ := by
  have w := h0.gd.wd
  have n1 := h0.n1
  have n2 := h0.n2
  have c5 := h0.c5
  obtain ⟨r, d', e, gd', gr, sp, _⟩ := chosen_ok 5 d 20 f g h h0.gd hf hg hh (Nat.le_trans (lev_le w hf) c5) (Nat.le_trans (lev_le w hg) c5) (Nat.le_trans (lev_le w hh) c5) (by omega) (by omega) (by omega)
  refine ⟨r, d', defnM_retE rfl rfl ?_, gd', gr, sp.lt, fun ρ => ?_⟩
  · let E : Env := [.me d.tr, .sh (iv f), .sh (iv g), .sh (iv h)]
    have s0 : m_Diagrams_choose E = m_Diagrams_choose_1 E := seq_ok (dchk_ok d [f, g, h] (fun x hx => by
      simp only [List.mem_cons, List.not_mem_nil, or_false] at hx
      rcases hx with rfl | rfl | rfl <;> assumption) rfl)
    exact ⟨_, s0.trans (sRetM_ok (mMeth0_ret rfl (mCons_ok (mH_ok (x := iv f) rfl) (mCons_ok (mH_ok (x := iv g) rfl) (mArg1 (x := iv h) rfl))) e)), rfl⟩
  · rw [sp.vl ρ, gr.val h0.gd gd' hf, gr.val h0.gd gd' hg, gr.val h0.gd gd' hh]
theorem negate_ok (d : DG) (h0 : OKD d 31) (f : Nat) (hf : f < d.ns.length + 2) : ∃ r d', f_Diagrams_negate d.tr [iv f] = .ret (iv r) d'.tr ∧ Op d d' 31 r fun ρ => !val d.ns f ρ := by
  obtain ⟨r, d', e, o⟩ := choose_ok d h0 f 0 1 hf (by omega) (by omega)
  refine ⟨r, d', defnM_retE rfl rfl ⟨_, sRetM_ok (mMeth0_ret rfl (mCons_ok (mH_ok (x := iv f) rfl) (mCons_ok (mH_ok (x := iv 0) rfl) (mArg1 (x := iv 1) rfl))) e), rfl⟩, o.gd, o.gr, o.lt, fun ρ => ?_⟩
  rw [o.vl ρ, val_0, val_1]
  cases val d.ns f ρ <;> rfl
theorem both_ok (d : DG) (h0 : OKD d 31) (f g : Nat) (hf : f < d.ns.length + 2) (hg : g < d.ns.length + 2) : ∃ r d', f_Diagrams_both d.tr [iv f, iv g] = .ret (iv r) d'.tr ∧ Op d d' 31 r fun ρ => val d.ns f ρ && val d.ns g ρ := by
  obtain ⟨r, d', e, o⟩ := choose_ok d h0 f g 0 hf hg (by omega)
  refine ⟨r, d', defnM_retE rfl rfl ⟨_, sRetM_ok (mMeth0_ret rfl (mCons_ok (mH_ok (x := iv f) rfl) (mCons_ok (mH_ok (x := iv g) rfl) (mArg1 (x := iv 0) rfl))) e), rfl⟩, o.gd, o.gr, o.lt, fun ρ => ?_⟩
  rw [o.vl ρ, val_0]
  cases val d.ns f ρ <;> rfl
theorem either_ok (d : DG) (h0 : OKD d 31) (f g : Nat) (hf : f < d.ns.length + 2) (hg : g < d.ns.length + 2) : ∃ r d', f_Diagrams_either d.tr [iv f, iv g] = .ret (iv r) d'.tr ∧ Op d d' 31 r fun ρ => val d.ns f ρ || val d.ns g ρ := by
  obtain ⟨r, d', e, o⟩ := choose_ok d h0 f 1 g hf (by omega) hg
  refine ⟨r, d', defnM_retE rfl rfl ⟨_, sRetM_ok (mMeth0_ret rfl (mCons_ok (mH_ok (x := iv f) rfl) (mCons_ok (mH_ok (x := iv 1) rfl) (mArg1 (x := iv g) rfl))) e), rfl⟩, o.gd, o.gr, o.lt, fun ρ => ?_⟩
  rw [o.vl ρ, val_1]
  cases val d.ns f ρ <;> rfl
theorem differ_ok (d : DG) (h0 : OKD d 62) (f g : Nat) (hf : f < d.ns.length + 2) (hg : g < d.ns.length + 2) : ∃ r d', f_Diagrams_differ d.tr [iv f, iv g] = .ret (iv r) d'.tr ∧ Op d d' 62 r fun ρ => val d.ns f ρ != val d.ns g ρ := by
  have h31 : OKD d 31 := ⟨h0.gd, h0.c5, by have := h0.n1; omega, by have := h0.n2; omega⟩
  obtain ⟨q, d1, e1, o1⟩ := negate_ok d h31 g hg
  have l1 := o1.gr.le
  obtain ⟨r, d', e, o⟩ := choose_ok d1 (OKD.step (m := 31) (n := 31) h0 o1.gd o1.gr) f q g (by omega) o1.lt (by omega)
  refine ⟨r, d', defnM_retE rfl rfl ?_, o.gd, o1.gr.trans o.gr, o.lt, fun ρ => ?_⟩
  · let E : Tr → Env := fun t => [.me t, .sh (iv f), .sh (iv g)]
    have s0 : m_Diagrams_differ (E d.tr) = m_Diagrams_differ_1 (E d.tr) := seq_ok (dchk_ok d [f, g] (fun x hx => by
      simp only [List.mem_cons, List.not_mem_nil, or_false] at hx
      rcases hx with rfl | rfl <;> assumption) rfl)
    have ng : mMeth "Diagrams" "negate" 0 f_Diagrams_negate (mCons (mH (eVar 2)) mNil) (E d.tr) = .ok (iv q) (E d1.tr) := mMeth0_ret rfl (mArg1 (x := iv g) rfl) e1
    exact ⟨_, s0.trans (sRetM_ok (mMeth0_chain rfl (mCons_ok (mH_ok (x := iv f) rfl) (mCons_ok ng (mArg1 (x := iv g) rfl))) e)), rfl⟩
  · rw [o.vl ρ, o1.vl ρ, o1.gr.val h0.gd o1.gd hf, o1.gr.val h0.gd o1.gd hg]
    cases val d.ns f ρ <;> cases val d.ns g ρ <;> rfl
theorem variable_ok (d : DG) (h0 : OKD d 1) (i : Nat) (hi : i < d.c) : ∃ r d', f_Diagrams_variable d.tr [iv i] = .ret (iv r) d'.tr ∧ Op d d' 1 r fun ρ => ρ i := by
  have n1 := h0.n1
  obtain ⟨fw, ⟨more, hmore, lmore⟩, flt, flv, fvl⟩ := found_spec h0.gd.wd (k := (i, 0, 1)) (by show 0 < _; omega) (by show 1 < d.ns.length + 2; omega) hi (by show lev d.ns 0 ≤ i; rw [lev_term _ (by omega)]; omega) (by show lev d.ns 1 ≤ i; rw [lev_term _ (by omega)]; omega)
  let FR := foundD d.ns (i, 0, 1)
  let d' : DG := DG.put d FR.2
  have gr : Grows d d' 1 := ⟨rfl, ⟨more, hmore, lmore⟩, Nat.le_add_right _ _, fun _ h => h⟩
  have gd' : GD d' := ⟨fw, fun p hp => by
    obtain ⟨a1, a2, a3, a4⟩ := h0.gd.chs p hp
    have := gr.le
    exact ⟨by omega, by omega, by omega, gr.spec h0.gd fw a4 a1 a2 a3⟩⟩
  refine ⟨FR.1, d', defnM_retE rfl rfl ?_, gd', gr, flt, fun ρ => ?_⟩
  · let E : Env := [.me d.tr, .sh (iv i)]
    have cd : bVal (eChain vLe vLt (eC (.int 0)) (eVar 1) (eFld "Diagrams" "_count" (eVar 0))) E = .ok true := by
      refine bVal_ok (eChain_ok (x := .int 0) (y := iv i) rfl rfl ?_ (dg_count (dg0 d _)) ?_)
      · show Res.ok (Val.bl (decide ((0 : Int) ≤ (i : Int)))) = _
        rw [decide_eq_true (Int.natCast_nonneg _)]
      · show Res.ok (Val.bl (decide ((i : Int) < (d.c : Int)))) = _
        rw [decide_eq_true (Int.ofNat_lt.mpr hi)]
    have s0 : m_Diagrams_variable E = m_Diagrams_variable_1 E := seqIf_no (bNot_ok cd)
    have fnd := dfound_ok d (by omega) i 0 1
    exact ⟨_, s0.trans (sRetM_ok (mMeth0_ret rfl (mCons_ok (mH_ok (x := iv i) rfl) (mCons_ok (mH_ok (x := iv 0) rfl) (mArg1 (x := iv 1) rfl))) fnd)), rfl⟩
  · have : val d'.ns FR.1 ρ = val d.ns (if ρ i then 1 else 0) ρ := fvl ρ
    rw [this]
    cases ρ i <;> rfl
theorem dinit_ok (c : Nat) : f_Diagrams___init__ (.o "Diagrams" []) [iv c] = .ret .non (DG.mk c [] []).tr := by
  refine defnM_retM rfl rfl ?_
  let E : Tr → Env := fun t => [.me t, .sh (iv c)]
  have e : m_Diagrams___init__ (E (.o "Diagrams" [])) = .next (E (DG.mk c [] []).tr) := rfl
  show OkM (m_Diagrams___init__ (E (.o "Diagrams" []))) _ _ _ _
  rw [e, OkM_next]
  exact ⟨rfl, rfl⟩
theorem wd0 (c : Nat) : WD c [] := ⟨fun j k h => (by simp at h), List.nodup_nil⟩
theorem gd0 (c : Nat) : GD (DG.mk c [] []) := ⟨wd0 c, fun p hp => absurd hp (List.not_mem_nil)⟩
theorem okd0 (c : Nat) (h : c ≤ 5) (m : Nat) (hm : m ≤ 50000) : OKD (DG.mk c [] []) m := ⟨gd0 c, h, by show 0 + m ≤ _; omega, by show 0 + m ≤ _; omega⟩
def bitsOf (k : Nat) : Nat → Bool := fun v => k.testBit v
def rowB (S : Nat) (φ : (Nat → Bool) → Bool) : Val := .lst ((List.range S).map fun k => .int (b2i (φ (bitsOf k))))
theorem row_ix (S : Nat) (φ : (Nat → Bool) → Bool) (k : Nat) (h : k < S) : vIx (rowB S φ) (.int (k : Int)) = .ok (.int (b2i (φ (bitsOf k)))) := by
  unfold rowB
  rw [vIx_lst, atI_nat, List.getElem?_map, List.getElem?_range h]
  rfl
def callF (k : Nat) (a b c : Bool) : Bool := if k = 0 then (if a then b else c) else if k = 1 then !a else if k = 2 then a && b else if k = 3 then a || b else a != b
theorem mTup_ok {a : AM} {env e : Env} {xs : List Val} (h : a env = .ok xs e) (hv : vTup xs = .ok (.tup xs)) : mTup a env = .ok (.tup xs) e := by
  unfold mTup
  rw [h]
  show (vTup xs).rs e = _
  rw [hv]
  rfl
theorem rowcomp (S : Nat) (hS : S ≤ 64) (m s1 s2 s3 : Slot) (el : EX) (φ : (Nat → Bool) → Bool) (h : ∀ j, j < S → el [m, s1, s2, s3, .sh (iv S), .sh (iv j)] = .ok (.int (b2i (φ (bitsOf j))))) : eComp (iRange1 (eVar 4)) [5] (pName 5) bYes el [m, s1, s2, s3, .sh (iv S), .un] = .ok (rowB S φ) := by
  have hi : iRange1 (eVar 4) [m, s1, s2, s3, .sh (iv S), .un] = .ok ((List.range S).map iv) := by
    rw [range1_ok (n := S) rfl (by omega), rangeL_nv]
  rw [eComp_all iv (fun j => .int (b2i (φ (bitsOf j)))) (List.range S) hi (by rw [List.length_range]; omega)]
  · rfl
  · intro j hj
    exact ⟨_, rfl, h j (List.mem_range.mp hj)⟩
end Lib
end Vm
end
noncomputable section
namespace Vm
open PySem
namespace Dia
open Lib (bitsOf)
end Dia
end Vm
end
noncomputable section
namespace Vm
open PySem
namespace Lib
open Dia
theorem gtI {p q : EX} {env : Env} {i j : Int} (h1 : p env = .ok (.int i)) (h2 : q env = .ok (.int j)) : bVal (Vm.e2 vGt p q) env = .ok (decide (i > j)) := bVal_ok (e2_ok h1 h2 rfl)
theorem dchkR_ok (d : DG) (xs : List Nat) (h : ∀ x ∈ xs, x < d.ns.length + 2) {a : EX} {r : Env} (ha : a (.sh d.v :: r) = .ok (.lst (xs.map iv))) : sDrop (eMeth "Diagrams" "_check" f_Diagrams__check (eVar 0) (aCons a aNil)) (.sh d.v :: r) = .next (.sh d.v :: r) :=
  sDrop_ok (dg_meth (d := d) (a := eVar 0) rfl ⟨rfl, rfl⟩ (aCons_ok ha rfl) (dcheck_ok d xs h) rfl)
theorem dvalue_ok (d : DG) (w : WD d.c d.ns) (hc : d.c ≤ 64) (f : Nat) (hf : f < d.ns.length + 2) (hl : d.ns.length < 15000000) (ρ : Nat → Bool) : f_Diagrams_value [d.v, iv f, .lst (((List.range d.c).map ρ).map bv)] = .ret (.int (b2i (val d.ns f ρ))) := by
  refine defn_ret rfl ?_
  let BV : Val := .lst (((List.range d.c).map ρ).map bv)
  let E : Slot → Slot → Slot → Slot → Env := fun a c e g => [.sh d.v, a, .sh BV, c, e, g]
  have s0 : m_Diagrams_value (E (.sh (iv f)) .un .un .un) = m_Diagrams_value_1 (E (.sh (iv f)) .un .un .un) := seq_ok (dchkR_ok d [f] (fun x hx => by rw [List.mem_singleton.mp hx]; exact hf) rfl)
  have ck : f_check_bits [BV, .int (d.c : Int)] = .ret .non := check_ok ((List.range d.c).map ρ) d.c (by rw [List.length_map, List.length_range]) (by rw [List.length_map, List.length_range]; omega)
  have s1 : m_Diagrams_value_1 (E (.sh (iv f)) .un .un .un) = m_Diagrams_value_2 (E (.sh (iv f)) .un .un .un) := seq_ok (sDrop_ok (eCall_ok (aCons_ok (x := BV) rfl (aCons_ok (dg_count (d := d) (a := eVar 0) rfl) rfl)) ck))
  show Ok (m_Diagrams_value (E (.sh (iv f)) .un .un .un)) _ _ _ _
  rw [s0, s1]
  unfold m_Diagrams_value_2 m_Diagrams_value_c_F
  rw [Ok_seq]
  refine Ok_while ?_
  refine whileL_ok (fun k env => ∃ (i : Nat) (a b c : Slot), env = E (.sh (iv i)) a b c ∧ lev d.ns i ≤ k ∧ i < d.ns.length + 2 ∧ val d.ns i ρ = val d.ns f ρ) ?_ 100000 (lev d.ns f) _ (by have := lev_le w hf; omega) ⟨f, _, _, _, rfl, Nat.le_refl _, hf, rfl⟩
  rintro k env ⟨i, a, b, c, rfl, hik, hi, hs⟩
  have cg : bVal (Vm.e2 vGt (eVar 1) (eC (.int 1))) (E (.sh (iv i)) a b c) = .ok (decide ((i : Int) > 1)) := gtI rfl rfl
  refine ⟨_, cg, fun hb => ?_, fun hb => ?_⟩
  · have hi2 : 2 ≤ i := by rw [decide_eq_true_eq] at hb; omega
    obtain ⟨j, t, rfl, ht⟩ := node_of hi2 hi
    obtain ⟨p, q, ne, vc, l1, l2⟩ := w.kid _ t ht
    rw [val_node w ht] at hs
    unfold m_Diagrams_value_c_L
    let E1 : Env := E (.sh (iv (j + 2))) (.sh (iv t.1)) (.sh (iv t.2.1)) (.sh (iv t.2.2))
    have u0 : sPut (pTup [3, 4, 5]) (Vm.e2 vIx (eFld "Diagrams" "_nodes" (eVar 0)) (eVar 1)) (E (.sh (iv (j + 2))) a b c) = .next E1 := by
      have nd : Vm.e2 vIx (eFld "Diagrams" "_nodes" (eVar 0)) (eVar 1) (hide (E (.sh (iv (j + 2))) a b c)) = .ok (triV t) := e2_ok (dg_nodes (d := d) (a := eVar 0) rfl) (y := .int ((j + 2 : Nat) : Int)) rfl (nodes_ix ht)
      unfold sPut
      rw [nd]
      rfl
    rw [Ok_seq, u0, Ok_next]
    refine Then.mk ?_
    unfold m_Diagrams_value_c_1
    have bx : Vm.e2 vIx (eVar 2) (eVar 3) (hide E1) = .ok (bv (ρ t.1)) := by
      refine e2_ok (x := BV) (y := iv t.1) rfl rfl ?_
      show vIx (.lst _) (.int (t.1 : Int)) = _
      rw [vIx_lst, atI_nat, List.getElem?_map, List.getElem?_map, List.getElem?_range vc]
      rfl
    have cv : bVal (Vm.e2 vEq (Vm.e2 vIx (eVar 2) (eVar 3)) (eC (.int 1))) (hide E1) = .ok (ρ t.1) := by
      have bx' : Vm.e2 vIx (eVar 2) (eVar 3) (hide E1) = .ok (.int (b2i (ρ t.1))) := by rw [bx]; cases ρ t.1 <;> rfl
      refine (eqI bx' (j := 1) rfl).trans ?_
      cases ρ t.1 <;> rfl
    have nx : eIf (bVal (Vm.e2 vEq (Vm.e2 vIx (eVar 2) (eVar 3)) (eC (.int 1)))) (eVar 5) (eVar 4) (hide E1) = .ok (iv (if ρ t.1 then t.2.2 else t.2.1)) := by
      unfold eIf
      rw [cv]
      cases ρ t.1 <;> rfl
    rw [sSet_ok nx (by show 1 < 6; omega), Ok_next]
    have hk2 : (if ρ t.1 then t.2.2 else t.2.1) < j + 2 := by split <;> omega
    have hl2 : lev d.ns (if ρ t.1 then t.2.2 else t.2.1) < k := by
      rw [lev_node ht] at hik
      split <;> omega
    exact ⟨_, hl2, _, _, _, _, rfl, Nat.le_refl _, by omega, hs⟩
  · have hi2 : i < 2 := by rw [decide_eq_false_iff_not] at hb; omega
    refine Then.mk ?_
    show Ok (.ret (iv i) _) _ _ _ _
    rw [Ok_ret, ← hs]
    rcases (by omega : i = 0 ∨ i = 1) with rfl | rfl <;> rfl
theorem dbits_ok (z n : Nat) (hn : n ≤ 64) : f__law_bits [iv z, iv n] = .ret (.lst (((List.range n).map (bitsOf z)).map bv)) := by
  refine defn_ret rfl ?_
  let E : Nat → List Val → Slot → Env := fun y p s => [.sh (iv y), .sh (iv n), .oL p, s]
  show Ok (m__law_bits [.sh (iv z), .sh (iv n), .un, .un]) _ _ _ _
  unfold m__law_bits
  have s0 : sOwn 2 (eArgs vLst aNil) [.sh (iv z), .sh (iv n), .un, .un] = .next (E z [] .un) := rfl
  rw [Ok_seq, s0, Ok_next]
  refine Then.mk ?_
  unfold m__law_bits_1 m__law_bits_b_F
  rw [Ok_seq]
  refine Ok_for (xs := rangeL 0 n) (range1_ok (n := n) rfl (by omega)) ?_
  refine forL_ok _ (fun i env => ∃ s, env = E (z / 2 ^ i) (((List.range i).map (bitsOf z)).map bv) s) _ ⟨.un, by rw [Nat.pow_zero, Nat.div_one]; rfl⟩ ?_ ?_
  · rintro i hi env ⟨s, rfl⟩
    rw [range_len] at hi
    rw [range_get, Int.zero_add]
    refine ⟨_, rfl, ?_⟩
    let p : List Val := ((List.range i).map (bitsOf z)).map bv
    let I : Slot := .sh (.int (i : Int))
    show Ok (m__law_bits_b_L (E (z / 2 ^ i) p I)) _ _ _ _
    unfold m__law_bits_b_L
    have bit : bv (bitsOf z i) = .int (((z / 2 ^ i : Nat) : Int) % 2) := by
      show bv (z.testBit i) = _
      rw [Nat.testBit_eq_decide_div_mod_eq]
      have : z / 2 ^ i % 2 = 0 ∨ z / 2 ^ i % 2 = 1 := by omega
      rcases this with e | e
      · rw [decide_eq_false (by omega)]
        show Val.int 0 = _
        congr 1
        omega
      · rw [decide_eq_true e]
        show Val.int 1 = _
        congr 1
        omega
    have u0 : sAppend 2 (Vm.e2 vMod (eArgs vInt (aCons (eVar 0) aNil)) (eC (.int 2))) (E (z / 2 ^ i) p I) = .next (E (z / 2 ^ i) (p ++ [bv (bitsOf z i)]) I) := by
      rw [bit]
      show (if p.length < 16777216 then Flow.next (E (z / 2 ^ i) (p ++ [Val.int (((z / 2 ^ i : Nat) : Int) % 2)]) I) else .bad) = _
      rw [if_pos (by show (((List.range i).map (bitsOf z)).map bv).length < _; rw [List.length_map, List.length_map, List.length_range]; omega)]
    rw [Ok_seq, u0, Ok_next]
    refine Then.mk ?_
    unfold m__law_bits_b_1
    have u1 : sSet 0 (Vm.e2 vDiv (eVar 0) (eC (.int 2))) (E (z / 2 ^ i) (p ++ [bv (bitsOf z i)]) I) = .next (E (z / 2 ^ (i + 1)) (p ++ [bv (bitsOf z i)]) I) := by
      refine (sSet_ok (x := iv (z / 2 ^ (i + 1))) (e2_ok (x := iv (z / 2 ^ i)) rfl rfl ?_) (by show 0 < 4; omega)).trans rfl
      show vDiv (.int ((z / 2 ^ i : Nat) : Int)) (.int 2) = _
      rw [vDiv_int, if_pos (divOk_iff.mpr (by omega))]
      show _ = Res.ok (Val.int _)
      congr 2
      rw [Nat.pow_succ, ← Nat.div_div_eq_div_mul]
      omega
    rw [u1, Ok_next]
    refine ⟨I, ?_⟩
    rw [List.range_succ, List.map_append, List.map_append]
    rfl
  · rintro env ⟨s, rfl⟩
    rw [range_len]
    refine Then.mk ?_
    show Ok (.ret _ _) _ _ _ _
    rw [Ok_ret]
end Lib
end Vm
end
noncomputable section
namespace Vm
open PySem
namespace Lib
open Dia
theorem sRetW_ok {a : EM} {env e : Env} {x : Val} (h : a env = .ok x e) : sRetW a env = .ret x (mkR e) := by
  unfold sRetW
  rw [h]
  rfl
theorem apply_ok (d : DG) (h0 : OKD d 62) (k S n0 n1 n2 : Nat) (hk : k < 5) (hS : S ≤ 64) (hf : n0 < d.ns.length + 2) (hg : n1 < d.ns.length + 2) (hh : n2 < d.ns.length + 2) : ∃ r d', f__law_apply d.tr [iv k, .lst [iv n0, iv n1, iv n2], .lst [rowB S (val d.ns n0), rowB S (val d.ns n1), rowB S (val d.ns n2)]] = .ret (.tup [iv r, rowB S fun ρ => callF k (val d.ns n0 ρ) (val d.ns n1 ρ) (val d.ns n2 ρ)]) d'.tr ∧ Op d d' 62 r fun ρ => callF k (val d.ns n0 ρ) (val d.ns n1 ρ) (val d.ns n2 ρ) := by
  have h31 : OKD d 31 := ⟨h0.gd, h0.c5, by have := h0.n1; omega, by have := h0.n2; omega⟩
  have w62 : ∀ {d' : DG} {r : Nat} {φ ψ : (Nat → Bool) → Bool}, Op d d' 31 r φ → (∀ ρ, φ ρ = ψ ρ) → Op d d' 62 r ψ := fun o h => ⟨o.gd, o.gr.mono (by omega), o.lt, fun ρ => (o.vl ρ).trans (h ρ)⟩
  let a := val d.ns n0
  let b := val d.ns n1
  let c := val d.ns n2
  let NV : Val := .lst [iv n0, iv n1, iv n2]
  let RW : Val := .lst [rowB S a, rowB S b, rowB S c]
  let E : Tr → Slot → Env := fun t z => [.me t, .sh (iv k), .sh NV, .sh RW, z, .un]
  let G : Slot → Slot → Env := fun m z => [m, .sh (iv k), .sh NV, .sh RW, .sh (iv S), z]
  have ra : ∀ (m : Slot) (j : Nat), j < S → Vm.e2 vIx (Vm.e2 vIx (eVar 3) (eC (.int 0))) (eVar 5) (G m (.sh (iv j))) = .ok (.int (b2i (a (bitsOf j)))) := fun m j hj => e2_ok (x := rowB S a) (y := iv j) rfl rfl (row_ix S a j hj)
  have rb : ∀ (m : Slot) (j : Nat), j < S → Vm.e2 vIx (Vm.e2 vIx (eVar 3) (eC (.int 1))) (eVar 5) (G m (.sh (iv j))) = .ok (.int (b2i (b (bitsOf j)))) := fun m j hj => e2_ok (x := rowB S b) (y := iv j) rfl rfl (row_ix S b j hj)
  have s0 : m__law_apply (E d.tr .un) = m__law_apply_1 (E d.tr (.sh (iv S))) := by
    refine seq_ok (sSet_ok (x := iv S) ?_ (by show 4 < 6; omega))
    unfold eArgs
    rw [aCons_ok (x := rowB S a) (e2_ok (x := RW) rfl rfl rfl) rfl]
    show vLen [.lst _] = _
    rw [vLen_lst, List.length_map, List.length_range]
    rfl
  let E1 : Env := E d.tr (.sh (iv S))
  have v1 : eVar 1 E1 = .ok (.int (k : Int)) := rfl
  have c0 : ∀ z : Int, eC (.int z) E1 = .ok (.int z) := fun _ => rfl
  have i0 : Vm.e2 vIx (eVar 2) (eC (.int 0)) (hide E1) = .ok (iv n0) := rfl
  have i1 : Vm.e2 vIx (eVar 2) (eC (.int 1)) (hide E1) = .ok (iv n1) := rfl
  have i2 : Vm.e2 vIx (eVar 2) (eC (.int 2)) (hide E1) = .ok (iv n2) := rfl
  -- a branch
  have br : ∀ (r : Nat) (d' : DG) (call : EM) (row : EX) (φ : (Nat → Bool) → Bool), call E1 = .ok (iv r) (E d'.tr (.sh (iv S))) → row (hide (E d'.tr (.sh (iv S)))) = .ok (rowB S φ) → sRetW (mTup (mCons call (mCons (mH row) mNil))) E1 = .ret (.tup [iv r, rowB S φ]) (mkR (E d'.tr (.sh (iv S)))) := fun r d' call row φ h1 h2 =>
    sRetW_ok (mTup_ok (mCons_ok h1 (mArg1 h2)) rfl)
  have fin : ∀ (r : Nat) (d' : DG) (φ : (Nat → Bool) → Bool), m__law_apply_1 E1 = .ret (.tup [iv r, rowB S φ]) (mkR (E d'.tr (.sh (iv S)))) → f__law_apply d.tr [iv k, NV, RW] = .ret (.tup [iv r, rowB S φ]) d'.tr := fun r d' φ h =>
    defnM_retW rfl ⟨E d'.tr (.sh (iv S)), s0.trans h, rfl⟩
  have q : ∀ z : Nat, bVal (Vm.e2 vEq (eVar 1) (eC (.int (z : Int)))) E1 = .ok (decide (k = z)) := fun z => (eqI v1 (c0 z)).trans (by congr 1; rw [decide_eq_decide]; omega)
  by_cases k0 : k = 0
  · obtain ⟨r, d', e, o⟩ := choose_ok d h31 n0 n1 n2 hf hg hh
    have hφ : ∀ ρ, (if a ρ then b ρ else c ρ) = callF k (a ρ) (b ρ) (c ρ) := fun ρ => by unfold callF; rw [if_pos k0]
    refine ⟨r, d', fin r d' _ (seqIf_ret ((q 0).trans (by rw [decide_eq_true k0])) (br r d' _ _ _ (mMeth0_ret rfl (mCons_ok (mH_ok i0) (mCons_ok (mH_ok i1) (mArg1 i2))) e) ?_)), w62 o hφ⟩
    refine rowcomp S hS _ _ _ _ _ _ fun j hj => ?_
    have e1 := ra .un j hj
    rw [← hφ]
    have ix : Vm.e2 vAdd (eC (.int 1)) (eArgs vInt (aCons (Vm.e2 vEq (Vm.e2 vIx (Vm.e2 vIx (eVar 3) (eC (.int 0))) (eVar 5)) (eC (.int 0))) aNil)) (G .un (.sh (iv j))) = .ok (.int (1 + b2i (!a (bitsOf j)))) := by
      refine e2_ok (x := .int 1) (y := .int (b2i (!a (bitsOf j)))) rfl ?_ (vAdd_int _ _)
      unfold eArgs
      have ev : Vm.e2 vEq (Vm.e2 vIx (Vm.e2 vIx (eVar 3) (eC (.int 0))) (eVar 5)) (eC (.int 0)) (G .un (.sh (iv j))) = .ok (.bl (!a (bitsOf j))) := by
        refine e2_ok e1 rfl ?_
        cases a (bitsOf j) <;> rfl
      rw [aCons_ok ev rfl]
      rfl
    cases ha : a (bitsOf j) with
    | true =>
      rw [ha] at ix
      exact e2_ok (x := rowB S b) (y := iv j) (e2_ok (x := RW) rfl ix rfl) rfl (row_ix S b j hj)
    | false =>
      rw [ha] at ix
      exact e2_ok (x := rowB S c) (y := iv j) (e2_ok (x := RW) rfl ix rfl) rfl (row_ix S c j hj)
  have p1 : m__law_apply_1 E1 = m__law_apply_2 E1 := seqIf_no ((q 0).trans (by rw [decide_eq_false k0]))
  by_cases k1 : k = 1
  · obtain ⟨r, d', e, o⟩ := negate_ok d h31 n0 hf
    have hφ : ∀ ρ, (!a ρ) = callF k (a ρ) (b ρ) (c ρ) := fun ρ => by unfold callF; rw [if_neg k0, if_pos k1]
    refine ⟨r, d', fin r d' _ (p1.trans (seqIf_ret ((q 1).trans (by rw [decide_eq_true k1])) (br r d' _ _ _ (mMeth0_ret rfl (mArg1 i0) e) ?_))), w62 o hφ⟩
    refine rowcomp S hS _ _ _ _ _ _ fun j hj => ?_
    rw [← hφ]
    refine e2_ok (x := .int 1) rfl (ra .un j hj) ?_
    cases a (bitsOf j) <;> rfl
  have p2 : m__law_apply_2 E1 = m__law_apply_3 E1 := seqIf_no ((q 1).trans (by rw [decide_eq_false k1]))
  by_cases k2 : k = 2
  · obtain ⟨r, d', e, o⟩ := both_ok d h31 n0 n1 hf hg
    have hφ : ∀ ρ, (a ρ && b ρ) = callF k (a ρ) (b ρ) (c ρ) := fun ρ => by unfold callF; rw [if_neg k0, if_neg k1, if_pos k2]
    refine ⟨r, d', fin r d' _ (p1.trans (p2.trans (seqIf_ret ((q 2).trans (by rw [decide_eq_true k2])) (br r d' _ _ _ (mMeth0_ret rfl (mCons_ok (mH_ok i0) (mArg1 i1)) e) ?_)))), w62 o hφ⟩
    refine rowcomp S hS _ _ _ _ _ _ fun j hj => ?_
    rw [← hφ]
    refine e2_ok (ra .un j hj) (rb .un j hj) ?_
    rw [vMul_int, if_pos (mulOk_r _ _ (by cases b (bitsOf j) <;> decide))]
    cases a (bitsOf j) <;> cases b (bitsOf j) <;> rfl
  have p3 : m__law_apply_3 E1 = m__law_apply_4 E1 := seqIf_no ((q 2).trans (by rw [decide_eq_false k2]))
  by_cases k3 : k = 3
  · obtain ⟨r, d', e, o⟩ := either_ok d h31 n0 n1 hf hg
    have hφ : ∀ ρ, (a ρ || b ρ) = callF k (a ρ) (b ρ) (c ρ) := fun ρ => by unfold callF; rw [if_neg k0, if_neg k1, if_neg k2, if_pos k3]
    refine ⟨r, d', fin r d' _ (p1.trans (p2.trans (p3.trans (seqIf_ret ((q 3).trans (by rw [decide_eq_true k3])) (br r d' _ _ _ (mMeth0_ret rfl (mCons_ok (mH_ok i0) (mArg1 i1)) e) ?_))))), w62 o hφ⟩
    refine rowcomp S hS _ _ _ _ _ _ fun j hj => ?_
    rw [← hφ]
    show ((aCons (Vm.e2 vIx (Vm.e2 vIx (eVar 3) (eC (.int 0))) (eVar 5)) (aCons (Vm.e2 vIx (Vm.e2 vIx (eVar 3) (eC (.int 1))) (eVar 5)) aNil)) (G .un (.sh (iv j)))).bind vMax = _
    rw [aCons_ok (ra .un j hj) (aCons_ok (rb .un j hj) rfl)]
    cases a (bitsOf j) <;> cases b (bitsOf j) <;> rfl
  have p4 : m__law_apply_4 E1 = m__law_apply_5 E1 := seqIf_no ((q 3).trans (by rw [decide_eq_false k3]))
  obtain ⟨r, d', e, o⟩ := differ_ok d h0 n0 n1 hf hg
  have hφ : ∀ ρ, (a ρ != b ρ) = callF k (a ρ) (b ρ) (c ρ) := fun ρ => by unfold callF; rw [if_neg k0, if_neg k1, if_neg k2, if_neg k3]
  refine ⟨r, d', fin r d' _ (p1.trans (p2.trans (p3.trans (p4.trans (br r d' _ _ _ (mMeth0_ret rfl (mCons_ok (mH_ok i0) (mArg1 i1)) e) ?_))))), ⟨o.gd, o.gr, o.lt, fun ρ => (o.vl ρ).trans (hφ ρ)⟩⟩
  refine rowcomp S hS _ _ _ _ _ _ fun j hj => ?_
  rw [← hφ]
  have ev : Vm.e2 vNe (Vm.e2 vIx (Vm.e2 vIx (eVar 3) (eC (.int 0))) (eVar 5)) (Vm.e2 vIx (Vm.e2 vIx (eVar 3) (eC (.int 1))) (eVar 5)) (G .un (.sh (iv j))) = .ok (.bl (a (bitsOf j) != b (bitsOf j))) := by
    refine e2_ok (ra .un j hj) (rb .un j hj) ?_
    cases a (bitsOf j) <;> cases b (bitsOf j) <;> rfl
  show ((aCons (Vm.e2 vNe (Vm.e2 vIx (Vm.e2 vIx (eVar 3) (eC (.int 0))) (eVar 5)) (Vm.e2 vIx (Vm.e2 vIx (eVar 3) (eC (.int 1))) (eVar 5))) aNil) (G .un (.sh (iv j)))).bind vInt = _
  rw [aCons_ok ev rfl]
  rfl
end Lib
end Vm
end
noncomputable section
namespace Vm
open PySem
theorem mApp_oT {f : MFn} {i : Nat} {env : Env} {t t' : Tr} {xs : List Val} {y : Val} (h : env[i]? = some (.oT t)) (hf : f t xs = .ret y t') : mApp f i [] xs env = .ok y (env.set i (.oT t')) := by
  unfold mApp treeAt
  rw [h]
  show (match f t xs with
    | .ret y t' => (match putPl env i [] t' with
      | .next e' => RS.ok y e'
      | _ => .bad)
    | .exc q t' => (match putPl env i [] t' with
      | .next e' => .exc q e'
      | _ => .bad)
    | .bad => .bad) = _
  rw [hf]
  show (match putPl env i [] t' with
      | .next e' => RS.ok y e'
      | _ => .bad) = _
  unfold putPl
  rw [h]
  rfl
theorem mMethI_ret {c m : Str} {f : MFn} {args : AM} {i : Nat} {env : Env} {t t' : Tr} {xs : List Val} {y : Val} (h : env[i]? = some (.oT t)) (ho : isO c m (some t) = true) (ha : args env = .ok xs env) (hf : f t xs = .ret y t') : mMeth c m i f args env = .ok y (env.set i (.oT t')) := by
  have ht : treeAt env i [] = some t := by
    unfold treeAt
    rw [h]
    rfl
  unfold mMeth
  rw [ht, if_pos ho, ha]
  exact mApp_oT h hf
theorem mCallI_ret {f : MFn} {args : AM} {i : Nat} {env : Env} {t t' : Tr} {xs : List Val} {y : Val} (h : env[i]? = some (.oT t)) (ha : args env = .ok xs env) (hf : f t xs = .ret y t') : mCall i f args env = .ok y (env.set i (.oT t')) := by
  have ht : treeAt env i [] = some t := by
    unfold treeAt
    rw [h]
    rfl
  unfold mCall
  rw [ht]
  show (args env).bind _ = _
  rw [ha]
  exact mApp_oT h hf
namespace Lib
open Dia
/-- the law's rows for some numbers -/
def rowsL (S : Nat) (d : DG) (nums : List Nat) : List Val := nums.map fun x => rowB S (val d.ns x)
theorem rowsL_grow {S m : Nat} {d d' : DG} (gr : Grows d d' m) (ga : GD d) (gb : GD d') {nums : List Nat} (hn : ∀ x ∈ nums, x < d.ns.length + 2) : rowsL S d' nums = rowsL S d nums := by
  refine List.map_congr_left fun x hx => ?_
  unfold rowB
  congr 1
  refine List.map_congr_left fun k _ => ?_
  rw [gr.val ga gb (hn x hx)]
/-- numbers and rows so far -/
structure NR (c m : Nat) (d : DG) (nums : List Nat) : Prop where
  ok : OKD d m
  c : d.c = c
  lt : ∀ x ∈ nums, x < d.ns.length + 2
theorem NR.grow {c m n r : Nat} {d d' : DG} {nums : List Nat} {φ : (Nat → Bool) → Bool} (h : NR c (m + n) d nums) (o : Op d d' m r φ) : NR c n d' (nums ++ [r]) := by
  refine ⟨h.ok.step o.gd o.gr, by rw [o.gr.c]; exact h.c, fun x hx => ?_⟩
  rcases List.mem_append.mp hx with hx | hx
  · have := h.lt x hx
    have := o.gr.le
    omega
  · rw [List.mem_singleton.mp hx]
    exact o.lt
theorem NR.rows {c m n r S : Nat} {d d' : DG} {nums : List Nat} {φ : (Nat → Bool) → Bool} (h : NR c (m + n) d nums) (o : Op d d' m r φ) : rowsL S d nums ++ [rowB S φ] = rowsL S d' (nums ++ [r]) := by
  unfold rowsL
  rw [List.map_append]
  have e := rowsL_grow (S := S) o.gr h.ok.gd o.gd h.lt
  unfold rowsL at e
  rw [e]
  congr 1
  show [rowB S φ] = [rowB S (val d'.ns r)]
  congr 1
  unfold rowB
  congr 1
  exact List.map_congr_left fun k _ => by rw [o.vl]
section
variable (A : Val) (c S : Nat)
def FE (d : DG) (nums : List Nat) (s6 s7 s8 s9 s10 s11 s12 s13 s14 : Slot) : Env := [.sh A, .sh (iv c), .oT d.tr, .sh (iv S), .oL (nums.map iv), .oL (rowsL S d nums), s6, s7, s8, s9, s10, s11, s12, s13, s14]
end
theorem var_step (A : Val) (c S m i : Nat) (hi : i < c) (hc : c ≤ 5) (hS : S ≤ 64) (d : DG) (nums : List Nat) (hl : nums.length < 1000) (h : NR c (1 + m) d nums) (s7 s8 s9 s10 s11 s12 s13 s14 : Slot) :
    ∃ r d', m__law_functions_f_L (FE A c S d nums (.sh (iv i)) .un s8 s9 s10 s11 s12 s13 s14) = .next (FE A c S d' (nums ++ [r]) (.sh (iv i)) .un s8 s9 s10 s11 s12 s13 s14) ∧ NR c m d' (nums ++ [r]) ∧ Op d d' 1 r fun ρ => ρ i := by
  obtain ⟨r, d', e, o⟩ := variable_ok d ⟨h.ok.gd, h.ok.c5, by have := h.ok.n1; omega, by have := h.ok.n2; omega⟩ i (by rw [h.c]; exact hi)
  refine ⟨r, d', ?_, h.grow o, o⟩
  let F : Slot → Slot → Slot → Env := fun t ns rs => [.sh A, .sh (iv c), t, .sh (iv S), ns, rs, .sh (iv i), .un, s8, s9, s10, s11, s12, s13, s14]
  have em : mMeth "Diagrams" "variable" 2 f_Diagrams_variable (mCons (mH (eVar 6)) mNil) (F (.oT d.tr) (.oL (nums.map iv)) (.oL (rowsL S d nums))) = .ok (iv r) (F (.oT d'.tr) (.oL (nums.map iv)) (.oL (rowsL S d nums))) := mMethI_ret (i := 2) rfl rfl (mArg1 (x := iv i) rfl) e
  have s0 : m__law_functions_f_L (F (.oT d.tr) (.oL (nums.map iv)) (.oL (rowsL S d nums))) = m__law_functions_f_1 (F (.oT d'.tr) (.oL (nums.map iv ++ [iv r])) (.oL (rowsL S d nums))) := seq_ok (sAppendM_ok (i := 4) (p := nums.map iv) (q := nums.map iv) rfl em rfl (by rw [List.length_map]; omega))
  have row : e__law_functions_3 (hide (F (.oT d'.tr) (.oL (nums.map iv ++ [iv r])) (.oL (rowsL S d nums)))) = .ok (rowB S fun ρ => ρ i) := by
    unfold e__law_functions_3
    have hi' : iRange1 (eVar 3) (hide (F (.oT d'.tr) (.oL (nums.map iv ++ [iv r])) (.oL (rowsL S d nums)))) = .ok ((List.range S).map iv) := by
      rw [range1_ok (n := S) rfl (by omega), rangeL_nv]
    rw [eComp_all iv (fun j => .int (b2i (bitsOf j i))) (List.range S) hi' (by rw [List.length_range]; omega)]
    · rfl
    · intro j hj
      refine ⟨_, rfl, ?_⟩
      refine e2_ok (eCall_ok (aCons_ok (x := iv j) rfl (aCons_ok (x := iv c) rfl rfl)) (dbits_ok j c (by omega))) (y := iv i) rfl ?_
      show vIx (.lst _) (.int (i : Int)) = _
      rw [vIx_lst, atI_nat, List.getElem?_map, List.getElem?_map, List.getElem?_range hi]
      show Res.ok (bv (bitsOf j i)) = _
      cases bitsOf j i <;> rfl
  have s1 : m__law_functions_f_1 (F (.oT d'.tr) (.oL (nums.map iv ++ [iv r])) (.oL (rowsL S d nums))) = .next (F (.oT d'.tr) (.oL (nums.map iv ++ [iv r])) (.oL (rowsL S d nums ++ [rowB S fun ρ => ρ i]))) := by
    unfold m__law_functions_f_1
    show ((e__law_functions_3 (hide (F (.oT d'.tr) (.oL (nums.map iv ++ [iv r])) (.oL (rowsL S d nums))))).flow _ _) = _
    rw [row]
    show (if (rowsL S d nums).length < 16777216 then Flow.next (F (.oT d'.tr) (.oL (nums.map iv ++ [iv r])) (.oL (rowsL S d nums ++ [rowB S fun ρ => ρ i]))) else .bad) = _
    rw [if_pos (by unfold rowsL; rw [List.length_map]; omega)]
  show m__law_functions_f_L (F (.oT d.tr) (.oL (nums.map iv)) (.oL (rowsL S d nums))) = .next (F (.oT d'.tr) (.oL ((nums ++ [r]).map iv)) (.oL (rowsL S d' (nums ++ [r]))))
  rw [s0, s1, h.rows o, List.map_append]
  rfl
end Lib
end Vm
end
noncomputable section
namespace Vm
open PySem
theorem forL_steps {put : Put} {body : ST} : ∀ (xs : List Val) (I : Nat → Env → Prop) (env : Env), I 0 env →
    (∀ i (h : i < xs.length) env, I i env → ∃ e e', put xs[i] env = .ok e ∧ body e = .next e' ∧ I (i + 1) e') → ∃ e', forL put body xs env = .next e' ∧ I xs.length e'
  | [], I, env, h0, _ => ⟨env, rfl, h0⟩
  | x :: xs, I, env, h0, hs => by
    obtain ⟨e, e', h1, h2, h3⟩ := hs 0 (by simp) env h0
    obtain ⟨e2, h4, h5⟩ := forL_steps xs (fun i => I (i + 1)) e' h3 fun i h env hI => hs (i + 1) (by simpa using h) env hI
    exact ⟨e2, (forL_next h1 h2).trans h4, h5⟩
theorem sFor_steps {it : EI} {put : Put} {body : ST} {env : Env} (xs : List Val) (hi : it (hide env) = .ok xs) (I : Nat → Env → Prop) (h0 : I 0 env)
    (hs : ∀ i (h : i < xs.length) env, I i env → ∃ e e', put xs[i] env = .ok e ∧ body e = .next e' ∧ I (i + 1) e') : ∃ e', sFor it put body env = .next e' ∧ I xs.length e' := by
  obtain ⟨e', h1, h2⟩ := forL_steps xs I env h0 hs
  refine ⟨e', ?_, h2⟩
  unfold sFor
  rw [hi]
  exact h1
/-- [own_i[t] for t in ks] -/
theorem gather_ok {it : EI} {i t : Nat} {env : Env} {xs : List Val} {ks : List Nat} (hi : it (hide env) = .ok (ks.map iv)) (he : env[i]? = some (.oL xs)) (ht : env[t]? = some .un) (hit : i ≠ t) (hk : ∀ k ∈ ks, k < xs.length) (hl : ks.length ≤ 16777216) :
    mComp (itH it) [t] (pName t) (bmP bYes) (mIxO i (mH (eVar t))) env = .ok (.lst (ks.map fun k => xs.getD k .non)) env := by
  have htl : t < env.length := (List.getElem?_eq_some_iff.mp ht).1
  have hset : env.set t .un = env := by
    obtain ⟨hl, he⟩ := List.getElem?_eq_some_iff.mp ht
    rw [← he, List.set_getElem_self]
  have main : ∀ (ks : List Nat), (∀ k ∈ ks, k < xs.length) → ∀ e, e.set t .un = env → ∃ e', loopCM (pName t) (bmP bYes) (mIxO i (mH (eVar t))) [t] (ks.map iv) e = .ok (ks.map fun k => xs.getD k .non) e' ∧ e'.set t .un = env := by
    intro ks
    induction ks with
    | nil => intro _ e h; exact ⟨e, rfl, h⟩
    | cons k ks ih =>
      intro hk e h
      have hw : wipeE e [t] = env := h
      obtain ⟨e', h1, h2⟩ := ih (fun x hx => hk x (List.mem_cons_of_mem _ hx)) (env.set t (.sh (iv k))) (by rw [List.set_set]; exact hset)
      refine ⟨e', ?_, h2⟩
      have p1 : pName t (iv k) env = .ok (env.set t (.sh (iv k))) := if_pos htl
      have hk' := hk k List.mem_cons_self
      have el : mIxO i (mH (eVar t)) (env.set t (.sh (iv k))) = .ok (xs.getD k .non) (env.set t (.sh (iv k))) := by
        have q : (env.set t (.sh (iv k)))[i]? = some (.oL xs) := by rw [List.getElem?_set_ne (Ne.symm hit)]; exact he
        have q2 : mH (eVar t) (env.set t (.sh (iv k))) = .ok (iv k) (env.set t (.sh (iv k))) := by
          unfold mH eVar hide
          rw [List.getElem?_map, List.getElem?_set_self htl]
          rfl
        unfold mIxO
        rw [q, q2]
        show (match (env.set t (.sh (iv k)))[i]?, iv k with
          | some (.oL xs), .int k' => (Res.ofOpt (atI xs k')).rs (env.set t (.sh (iv k)))
          | _, _ => .bad) = _
        rw [q]
        show (Res.ofOpt (atI xs (k : Int))).rs _ = _
        rw [atI_nat, List.getElem?_eq_getElem hk']
        show RS.ok _ _ = _
        rw [List.getD_eq_getElem?_getD, List.getElem?_eq_getElem hk']
        rfl
      show loopCM (pName t) (bmP bYes) (mIxO i (mH (eVar t))) [t] (iv k :: ks.map iv) e = _
      unfold loopCM
      rw [hw, p1]
      show (match mIxO i (mH (eVar t)) (env.set t (.sh (iv k))) with
        | .ok y e3 => (match loopCM (pName t) (bmP bYes) (mIxO i (mH (eVar t))) [t] (ks.map iv) e3 with
          | .ok r e4 => RS.ok (y :: r) e4
          | _ => .bad)
        | _ => .bad) = _
      rw [el]
      show (match loopCM (pName t) (bmP bYes) (mIxO i (mH (eVar t))) [t] (ks.map iv) (env.set t (.sh (iv k))) with
          | .ok r e4 => RS.ok (xs.getD k .non :: r) e4
          | _ => .bad) = _
      rw [h1]
      rfl
  obtain ⟨e', h1, h2⟩ := main ks hk env hset
  unfold mComp itH
  rw [hi]
  show (if (ks.map iv).length ≤ 16777216 then _ else _) = _
  rw [if_pos (by rw [List.length_map]; exact hl), h1]
  show RS.ok _ (e'.set t .un) = _
  rw [h2]
theorem sPutM2_ok {i j : Nat} {a : EM} {env e : Env} {x y : Val} (h : a env = .ok (.tup [x, y]) e) (hi : i < e.length) (hj : j < e.length) : sPutM (pTup [i, j]) a env = .next ((e.set i (.sh x)).set j (.sh y)) := by
  unfold sPutM
  rw [h]
  show ((putAll [i, j] [x, y] e)).flow e .next = _
  show (((if i < e.length then Res.ok (e.set i (.sh x)) else .bad).bind fun e => (if j < e.length then Res.ok (e.set j (.sh y)) else .bad).bind fun e => .ok e)).flow e .next = _
  rw [if_pos hi]
  show ((if j < (e.set i (.sh x)).length then Res.ok ((e.set i (.sh x)).set j (.sh y)) else .bad).bind fun e => .ok e).flow e .next = _
  rw [if_pos (by rw [List.length_set]; exact hj)]
  rfl
namespace Lib
open Dia
theorem parts_at {ps sizes : List Int} (h : Parts ps sizes) (i : Nat) (hi : i < sizes.length) : ∃ k : Nat, ps[i]? = some (k : Int) ∧ (k : Int) < sizes[i] := by
  have hl : i < ps.length := by rw [h.1]; exact hi
  obtain ⟨h1, h2⟩ := h.2 i hl hi
  refine ⟨ps[i].toNat, ?_, by omega⟩
  rw [List.getElem?_eq_getElem hl, Int.toNat_of_nonneg h1]
theorem rows_get {S : Nat} {d : DG} {nums : List Nat} {k : Nat} (h : k < nums.length) : (rowsL S d nums).getD k .non = rowB S (val d.ns nums[k]) := by
  unfold rowsL
  rw [List.getD_eq_getElem?_getD, List.getElem?_map, List.getElem?_eq_getElem h]
  rfl
theorem nums_get {nums : List Nat} {k : Nat} (h : k < nums.length) : (nums.map iv).getD k .non = iv nums[k] := by
  rw [List.getD_eq_getElem?_getD, List.getElem?_map, List.getElem?_eq_getElem h]
  rfl
theorem app_step (ns : List Int) (c S m k : Nat) (hk : k < 100) (hS : S ≤ 64) (d : DG) (nums : List Nat) (hl : nums.length < 1000) (h0 : 0 < nums.length) (h : NR c (62 + m) d nums) (s6 s8 s9 s10 s11 s12 : Slot) :
    ∃ r d' t8 t9 t10 t11 t12, m__law_functions_g_L (FE (.lst (ns.map .int)) c S d nums s6 (.sh (iv k)) s8 s9 s10 s11 s12 .un .un) = .next (FE (.lst (ns.map .int)) c S d' (nums ++ [r]) s6 (.sh (iv k)) t8 t9 t10 t11 t12 .un .un) ∧ NR c m d' (nums ++ [r]) ∧ Grows d d' 62 := by
  let A : Val := .lst (ns.map .int)
  obtain ⟨c0, hc⟩ := cell_ok ns (1 + k)
  obtain ⟨y, hp, ps, rfl, hP⟩ := parts_ok (c0 + 29 * k) [8, 60, 60, 60] (by decide) (by decide)
  obtain ⟨p0, e0, b0⟩ := parts_at hP 0 (by decide)
  obtain ⟨p1, e1, b1⟩ := parts_at hP 1 (by decide)
  obtain ⟨p2, e2, b2⟩ := parts_at hP 2 (by decide)
  obtain ⟨p3, e3, b3⟩ := parts_at hP 3 (by decide)
  have hps : ps = [(p0 : Int), (p1 : Int), (p2 : Int), (p3 : Int)] := by
    have hl4 : ps.length = 4 := hP.1
    match ps, hl4, e0, e1, e2, e3 with
    | [a, b, c, d], _, e0, e1, e2, e3 =>
      cases e0; cases e1; cases e2; cases e3; rfl
  subst hps
  let n := nums.length
  let E : Slot → Slot → Slot → Env := fun t8 t9 t10 => [.sh A, .sh (iv c), .oT d.tr, .sh (iv S), .oL (nums.map iv), .oL (rowsL S d nums), s6, .sh (iv k), t8, t9, t10, s11, s12, .un, .un]
  have t1 : m__law_functions_g_L (E s8 s9 s10) = m__law_functions_g_1 (E (.sh (.lst ([(p0 : Int), p1, p2, p3].map .int))) s9 s10) := by
    refine seq_ok (sSet_ok (i := 8) (eCall_ok (aCons_ok (x := .int (c0 + 29 * k)) (e2_ok (x := .int c0) (y := .int (29 * k)) ?_ ?_ rfl) (aCons_ok (x := .lst ([8, 60, 60, 60].map .int)) rfl rfl)) hp) (by show 8 < 15; decide))
    · refine eCall_ok (aCons_ok (x := A) rfl (aCons_ok (x := .int (1 + k : Nat)) ?_ rfl)) hc
      show Res.ok (Val.int (1 + (k : Int))) = Res.ok (.int ((1 + k : Nat) : Int))
      rw [Int.natCast_add]; rfl
    · refine e2_ok (x := .int 29) (y := .int k) rfl rfl ?_
      rw [vMul_int, if_pos (mulOk_l _ _ (by decide))]
  let us : List Nat := [p1 % n, p2 % n, p3 % n]
  have hu : ∀ x ∈ us, x < nums.length := by
    intro x hx
    simp only [us, List.mem_cons, List.not_mem_nil, or_false] at hx
    rcases hx with rfl | rfl | rfl <;> exact Nat.mod_lt _ h0
  let P : Val := .lst ([(p0 : Int), p1, p2, p3].map .int)
  have t2 : m__law_functions_g_1 (E (.sh P) s9 s10) = m__law_functions_g_2 (E (.sh P) (.oL (us.map iv)) s10) := by
    refine seq_ok (sOwnN_ok (i := 9) (xs := us.map iv) ?_ (by show 9 < 15; decide) rfl)
    unfold e__law_functions_4
    refine (eComp_all iv (fun x => iv (x % n)) [p1, p2, p3] rfl (by show 3 ≤ 16777216; decide) ?_)
    intro x hx
    refine ⟨_, rfl, ?_⟩
    refine e2_ok (x := iv x) (y := .int n) rfl ?_ ?_
    · show Res.ok (Val.int ((nums.map iv).length : Int)) = _
      rw [List.length_map]
    · show (if 0 < (n : Int) then Res.ok (Val.int ((x : Int) % (n : Int))) else .bad) = _
      rw [if_pos (by show (0 : Int) < (nums.length : Int); omega)]
      rfl
  have t3 : m__law_functions_g_2 (E (.sh P) (.oL (us.map iv)) s10) = m__law_functions_g_3 (E (.sh P) (.sh (.lst (us.map iv))) s10) := rfl
  obtain ⟨q, hq, hv⟩ : ∃ q : Nat, q < 5 ∧ vIx (.lst [.int 0, .int 0, .int 0, .int 1, .int 2, .int 3, .int 4, .int 4]) (.int (p0 : Int)) = .ok (iv q) := by
    have : p0 < 8 := by have b0 : (p0 : Int) < 8 := b0; omega
    rcases p0 with _ | _ | _ | _ | _ | _ | _ | _ | p0
    · exact ⟨0, by decide, rfl⟩
    · exact ⟨0, by decide, rfl⟩
    · exact ⟨0, by decide, rfl⟩
    · exact ⟨1, by decide, rfl⟩
    · exact ⟨2, by decide, rfl⟩
    · exact ⟨3, by decide, rfl⟩
    · exact ⟨4, by decide, rfl⟩
    · exact ⟨4, by decide, rfl⟩
    · omega
  have t4 : m__law_functions_g_3 (E (.sh P) (.sh (.lst (us.map iv))) s10) = m__law_functions_g_4 (E (.sh P) (.sh (.lst (us.map iv))) (.sh (iv q))) := seq_ok (sSet_ok (i := 10) (e2_ok (x := .lst [.int 0, .int 0, .int 0, .int 1, .int 2, .int 3, .int 4, .int 4]) (y := .int (p0 : Int)) rfl rfl hv) (show 10 < 15 by decide))
  let F := E (.sh P) (.sh (.lst (us.map iv))) (.sh (iv q))
  have g6 : e__law_functions_6 F = .ok (.lst (us.map fun k => (nums.map iv).getD k .non)) F := gather_ok (i := 4) (t := 14) (ks := us) rfl rfl rfl (by decide) (fun x hx => by rw [List.length_map]; exact hu x hx) (by show 3 ≤ 16777216; decide)
  have g5 : e__law_functions_5 F = .ok (.lst (us.map fun k => (rowsL S d nums).getD k .non)) F := gather_ok (i := 5) (t := 14) (ks := us) rfl rfl rfl (by decide) (fun x hx => by unfold rowsL; rw [List.length_map]; exact hu x hx) (by show 3 ≤ 16777216; decide)
  have hu1 : p1 % n < nums.length := hu _ (by simp [us])
  have hu2 : p2 % n < nums.length := hu _ (by simp [us])
  have hu3 : p3 % n < nums.length := hu _ (by simp [us])
  have g6' : (us.map fun k => (nums.map iv).getD k .non) = [iv nums[p1 % n], iv nums[p2 % n], iv nums[p3 % n]] := by
    show [(nums.map iv).getD (p1 % n) .non, (nums.map iv).getD (p2 % n) .non, (nums.map iv).getD (p3 % n) .non] = _
    rw [nums_get hu1, nums_get hu2, nums_get hu3]
  have g5' : (us.map fun k => (rowsL S d nums).getD k .non) = [rowB S (val d.ns nums[p1 % n]), rowB S (val d.ns nums[p2 % n]), rowB S (val d.ns nums[p3 % n])] := by
    show [(rowsL S d nums).getD (p1 % n) .non, (rowsL S d nums).getD (p2 % n) .non, (rowsL S d nums).getD (p3 % n) .non] = _
    rw [rows_get hu1, rows_get hu2, rows_get hu3]
  rw [g6'] at g6
  rw [g5'] at g5
  obtain ⟨r, d', ea, o⟩ := apply_ok d ⟨h.ok.gd, h.ok.c5, by have := h.ok.n1; omega, by have := h.ok.n2; omega⟩ q S nums[p1 % n] nums[p2 % n] nums[p3 % n] hq hS (h.lt _ (List.getElem_mem _)) (h.lt _ (List.getElem_mem _)) (h.lt _ (List.getElem_mem _))
  have mc : mCall 2 f__law_apply (mCons (mH (eVar 10)) (mCons e__law_functions_6 (mCons e__law_functions_5 mNil))) F = .ok _ (F.set 2 (.oT d'.tr)) := mCallI_ret (i := 2) rfl (mCons_ok (mH_ok (x := iv q) rfl) (mCons_ok g6 (mCons_ok g5 rfl))) ea
  let G : Slot → Slot → Env := fun a b => [.sh A, .sh (iv c), .oT d'.tr, .sh (iv S), a, b, s6, .sh (iv k), .sh P, .sh (.lst (us.map iv)), .sh (iv q), .sh (iv r), .sh (rowB S fun ρ => callF q (val d.ns nums[p1 % n] ρ) (val d.ns nums[p2 % n] ρ) (val d.ns nums[p3 % n] ρ)), .un, .un]
  have t5 : m__law_functions_g_4 F = m__law_functions_g_5 (G (.oL (nums.map iv)) (.oL (rowsL S d nums))) := seq_ok (sPutM2_ok (i := 11) (j := 12) mc (by show 11 < 15; decide) (by show 12 < 15; decide))
  have t6 : m__law_functions_g_5 (G (.oL (nums.map iv)) (.oL (rowsL S d nums))) = m__law_functions_g_6 (G (.oL (nums.map iv ++ [iv r])) (.oL (rowsL S d nums))) := by
    refine seq_ok ?_
    show (if (nums.map iv).length < 16777216 then Flow.next (G (.oL (nums.map iv ++ [iv r])) (.oL (rowsL S d nums))) else .bad) = _
    rw [if_pos (by rw [List.length_map]; omega)]
  have t7 : m__law_functions_g_6 (G (.oL (nums.map iv ++ [iv r])) (.oL (rowsL S d nums))) = .next (G (.oL (nums.map iv ++ [iv r])) (.oL (rowsL S d nums ++ [rowB S fun ρ => callF q (val d.ns nums[p1 % n] ρ) (val d.ns nums[p2 % n] ρ) (val d.ns nums[p3 % n] ρ)]))) := by
    show (if (rowsL S d nums).length < 16777216 then Flow.next (G (.oL (nums.map iv ++ [iv r])) (.oL (rowsL S d nums ++ [rowB S fun ρ => callF q (val d.ns nums[p1 % n] ρ) (val d.ns nums[p2 % n] ρ) (val d.ns nums[p3 % n] ρ)]))) else .bad) = _
    rw [if_pos (by unfold rowsL; rw [List.length_map]; omega)]
  refine ⟨r, d', .sh P, .sh (.lst (us.map iv)), .sh (iv q), .sh (iv r), .sh (rowB S fun ρ => callF q (val d.ns nums[p1 % n] ρ) (val d.ns nums[p2 % n] ρ) (val d.ns nums[p3 % n] ρ)), ?_, h.grow o, o.gr⟩
  · show m__law_functions_g_L (E s8 s9 s10) = _
    rw [t1, t2, t3, t4, t5, t6, t7, h.rows o]
    show Flow.next _ = Flow.next _
    rw [← show (nums ++ [r]).map iv = nums.map iv ++ [iv r] from List.map_append]
    rfl
end Lib
end Vm
end
noncomputable section
namespace Vm
open PySem
theorem sOwn_ok {i : Nat} {a : EX} {env : Env} {xs : List Val} (h : a (hide env) = .ok (.lst xs)) (hl : i < env.length) : sOwn i a env = .next (env.set i (.oL xs)) := by
  unfold sOwn
  rw [h]
  show (if i < env.length then _ else _) = _
  rw [if_pos hl]
theorem sOwnT_ok {i : Nat} {a : ET} {env : Env} {t : Tr} (h : a (hide env) = .ok t) (hl : i < env.length) : sOwnT i a env = .next (env.set i (.oT t)) := by
  unfold sOwnT
  rw [h]
  show (if i < env.length then _ else _) = _
  rw [if_pos hl]
theorem tMakeT_ok {c : Str} {f : MFn} {a : EL} {env : Env} {xs : List Val} {t : Tr} (h : a env = .ok xs) (hf : f (.o c []) xs = .ret .non t) : tMakeT c f a env = .ok t := by
  unfold tMakeT
  rw [h]
  show (match f (.o c []) xs with
    | .ret .non t => Res.ok t
    | .exc q _ => .exc q
    | _ => .bad) = _
  rw [hf]
theorem defnU_ret {k n : Nat} {m : ST} {i : Nat} {r : EL} {xs : List Val} {t : Tr} {ys : List Val} {e : Env} (hk : xs.length = k) (hm : m (startE n xs) = .next e) (ht : e[i]? = some (.oT t)) (hr : r (hide e) = .ok ys) (hl : ys.length < 1000) : defnU k n m i r xs = .ret t ys := by
  unfold defnU
  rw [if_pos hk, hm]
  show retU i r e = _
  unfold retU
  rw [ht]
  show (match r (hide e) with
    | .ok ys => if ys.length + 1 ≤ 16777216 then DU.ret t ys else .bad
    | _ => .bad) = _
  rw [hr]
  show (if ys.length + 1 ≤ 16777216 then DU.ret t ys else .bad) = _
  rw [if_pos (by omega)]
theorem eArgs_ok {f : List Val → Res Val} {a : EL} {env : Env} {xs : List Val} {y : Val} (h : a env = .ok xs) (hf : f xs = .ok y) : eArgs f a env = .ok y := by
  unfold eArgs
  rw [h]
  exact hf
theorem vMax_2 (i j : Int) : vMax [.int i, .int j] = .ok (.int (max i j)) := by
  show Res.ok (Val.int (if i < j then j else i)) = _
  congr 2
  split <;> omega
theorem vMin_2 (i j : Int) : vMin [.int i, .int j] = .ok (.int (min i j)) := by
  show Res.ok (Val.int (if j < i then j else i)) = _
  congr 2
  split <;> omega
namespace Lib
open Dia
theorem functions_ok (ns : List Int) (hns : ns.length ≤ 63) : ∃ c d nums, f__law_functions [.lst (ns.map .int)] = .ret d.tr [iv c, .lst (nums.map iv), .lst (rowsL (2 ^ c) d nums)] ∧ c ≤ 5 ∧ NR c 40000 d nums ∧ nums.length ≤ 21 ∧ 0 < nums.length := by
  let A : Val := .lst (ns.map .int)
  obtain ⟨c0, hc⟩ := cell_ok ns 0
  obtain ⟨y, hp, ps, rfl, hP⟩ := parts_ok c0 [6] (by decide) (by decide)
  obtain ⟨c, e0, b0⟩ := parts_at hP 0 (by decide)
  have b0 : (c : Int) < 6 := b0
  have hc5 : c ≤ 5 := by omega
  have hps : ps = [(c : Int)] := by
    have hl : ps.length = 1 := hP.1
    match ps, hl, e0 with
    | [a], _, e0 => cases e0; rfl
  subst hps
  let S := 2 ^ c
  have hS : S ≤ 32 := by
    show 2 ^ c ≤ 2 ^ 5
    exact Nat.pow_le_pow_right (by decide) hc5
  let E : Slot → Slot → Slot → Slot → Slot → Env := fun s1 s2 s3 s4 s5 => [.sh A, s1, s2, s3, s4, s5, .un, .un, .un, .un, .un, .un, .un, .un, .un]
  have t1 : m__law_functions (E .un .un .un .un .un) = m__law_functions_1 (E (.sh (iv c)) .un .un .un .un) := by
    refine seq_ok (sSet_ok (i := 1) (e2_ok (x := .lst ([(c : Int)].map .int)) (y := .int 0) (eCall_ok (aCons_ok (x := .int c0) (eCall_ok (aCons_ok (x := A) rfl (aCons_ok (x := .int (0 : Nat)) rfl rfl)) hc) (aCons_ok (x := .lst ([6].map .int)) rfl rfl)) hp) rfl rfl) (by show 1 < 15; decide))
  let d0 : DG := DG.mk c [] []
  have t2 : m__law_functions_1 (E (.sh (iv c)) .un .un .un .un) = m__law_functions_2 (E (.sh (iv c)) (.oT d0.tr) .un .un .un) := seq_ok (sOwnT_ok (i := 2) (tMakeT_ok (aCons_ok (x := iv c) rfl rfl) (dinit_ok c)) (by show 2 < 15; decide))
  have hv : vIx (.lst [.int 1, .int 2, .int 4, .int 8, .int 16, .int 32]) (.int (c : Int)) = .ok (iv S) := by
    show _ = Res.ok (iv (2 ^ c))
    rcases c with _ | _ | _ | _ | _ | _ | c
    · rfl
    · rfl
    · rfl
    · rfl
    · rfl
    · rfl
    · omega
  have t3 : m__law_functions_2 (E (.sh (iv c)) (.oT d0.tr) .un .un .un) = m__law_functions_3 (E (.sh (iv c)) (.oT d0.tr) (.sh (iv S)) .un .un) := seq_ok (sSet_ok (i := 3) (e2_ok (x := .lst [.int 1, .int 2, .int 4, .int 8, .int 16, .int 32]) (y := .int (c : Int)) rfl rfl hv) (by show 3 < 15; decide))
  have t4 : m__law_functions_3 (E (.sh (iv c)) (.oT d0.tr) (.sh (iv S)) .un .un) = m__law_functions_4 (E (.sh (iv c)) (.oT d0.tr) (.sh (iv S)) (.oL ([0, 1].map iv)) .un) := seq_ok (sOwn_ok (i := 4) (xs := [0, 1].map iv) rfl (by show 4 < 15; decide))
  have row : ∀ (b : Bool) (env : Env), env = hide (E (.sh (iv c)) (.oT d0.tr) (.sh (iv S)) (.oL ([0, 1].map iv)) .un) → eComp (iRange1 (eVar 3)) [7] (pName 7) bYes (eC (.int (b2i b))) env = .ok (rowB S fun _ => b) := by
    intro b env he
    subst he
    have hi' : iRange1 (eVar 3) (hide (E (.sh (iv c)) (.oT d0.tr) (.sh (iv S)) (.oL ([0, 1].map iv)) .un)) = .ok ((List.range S).map iv) := by
      rw [range1_ok (n := S) rfl (by omega), rangeL_nv]
    rw [eComp_all iv (fun _ => .int (b2i b)) (List.range S) hi' (by rw [List.length_range]; omega)]
    · rfl
    · intro j hj
      exact ⟨_, rfl, rfl⟩
  have t5 : m__law_functions_4 (E (.sh (iv c)) (.oT d0.tr) (.sh (iv S)) (.oL ([0, 1].map iv)) .un) = m__law_functions_5 (FE A c S d0 [0, 1] .un .un .un .un .un .un .un .un .un) := by
    refine seq_ok (sOwn_ok (i := 5) (xs := [rowB S fun _ => false, rowB S fun _ => true]) ?_ (by show 5 < 15; decide))
    have r0 : e__law_functions_2 (hide (E (.sh (iv c)) (.oT d0.tr) (.sh (iv S)) (.oL ([0, 1].map iv)) .un)) = .ok (rowB S fun _ => false) := row false _ rfl
    have r1 : e__law_functions_1 (hide (E (.sh (iv c)) (.oT d0.tr) (.sh (iv S)) (.oL ([0, 1].map iv)) .un)) = .ok (rowB S fun _ => true) := row true _ rfl
    show ((aCons e__law_functions_2 (aCons e__law_functions_1 aNil)) _).bind _ = _
    rw [aCons_ok r0 (aCons_ok r1 rfl)]
    rfl
  have nr0 : NR c (5 + (14 * 62 + 40000)) d0 [0, 1] := ⟨okd0 c hc5 _ (by omega), rfl, fun x hx => by
    show x < 0 + 2
    simp only [List.mem_cons, List.not_mem_nil, or_false] at hx
    omega⟩
  obtain ⟨E1, r1, I1⟩ := sFor_steps (it := iRange1 (eVar 1)) (put := pName 6) (body := m__law_functions_f_L) (env := FE A c S d0 [0, 1] .un .un .un .un .un .un .un .un .un) ((List.range c).map iv) (by rw [← rangeL_nv]; exact range1_ok rfl (by omega))
    (fun i e => ∃ d nums s6, e = FE A c S d nums s6 .un .un .un .un .un .un .un .un ∧ NR c (5 - i + (14 * 62 + 40000)) d nums ∧ nums.length = 2 + i) ⟨d0, [0, 1], .un, rfl, nr0, rfl⟩ (fun i h e ⟨d, nums, s6, he, hn, hl⟩ => by
      subst he
      rw [List.length_map, List.length_range] at h
      obtain ⟨r, d', e1, e2, _⟩ := var_step A c S (5 - (i + 1) + (14 * 62 + 40000)) i h hc5 (by omega) d nums (by omega) (by rw [show 1 + (5 - (i + 1) + (14 * 62 + 40000)) = 5 - i + (14 * 62 + 40000) by omega]; exact hn) .un .un .un .un .un .un .un .un
      refine ⟨_, _, ?_, e1, d', nums ++ [r], .sh (iv i), rfl, e2, by rw [List.length_append]; show nums.length + 1 = _; omega⟩
      rw [List.getElem_map, List.getElem_range]
      rfl)
  obtain ⟨d1, nums1, s6, rfl, nr1, hl1⟩ := I1
  rw [List.length_map, List.length_range] at hl1 nr1
  have nr1 : NR c (14 * 62 + 40000) d1 nums1 := ⟨⟨nr1.ok.gd, nr1.ok.c5, by have := nr1.ok.n1; omega, by have := nr1.ok.n2; omega⟩, nr1.c, nr1.lt⟩
  have t6 : m__law_functions_5 (FE A c S d0 [0, 1] .un .un .un .un .un .un .un .un .un) = m__law_functions_6 (FE A c S d1 nums1 s6 .un .un .un .un .un .un .un .un) := seq_ok r1
  obtain ⟨K, hK, hit⟩ : ∃ K : Nat, K ≤ 14 ∧ iRange1 (eArgs vMin (aCons (eC (.int 14)) (aCons (eArgs vMax (aCons (eC (.int 3)) (aCons (Vm.e2 vSub (eArgs vLen (aCons (eVar 0) aNil)) (eC (.int 1))) aNil))) aNil))) (hide (FE A c S d1 nums1 s6 .un .un .un .un .un .un .un .un)) = .ok (rangeL 0 K) := by
    refine ⟨(min 14 (max 3 ((ns.length : Int) - 1))).toNat, by omega, range1_ok ?_ (by omega)⟩
    have h0 : (Vm.e2 vSub (eArgs vLen (aCons (eVar 0) aNil)) (eC (.int 1))) (hide (FE A c S d1 nums1 s6 .un .un .un .un .un .un .un .un)) = .ok (.int ((ns.length : Int) - 1)) := by
      refine e2_ok (x := .int ns.length) (y := .int 1) ?_ rfl rfl
      show Res.ok (Val.int ((ns.map Val.int).length : Int)) = _
      rw [List.length_map]
    have h1 : vMax [.int 3, .int ((ns.length : Int) - 1)] = .ok (.int (max 3 ((ns.length : Int) - 1))) := by
      rw [vMax_2]
    have h2 : vMin [.int 14, .int (max 3 ((ns.length : Int) - 1))] = .ok (.int ((min 14 (max 3 ((ns.length : Int) - 1))).toNat : Int)) := by
      rw [vMin_2]
      congr 2
      omega
    exact eArgs_ok (aCons_ok (x := .int 14) rfl (aCons_ok (eArgs_ok (aCons_ok (x := .int 3) rfl (aCons_ok h0 rfl)) h1) rfl)) h2
  obtain ⟨E2, r2, I2⟩ := sFor_steps (put := pName 7) (body := m__law_functions_g_L) _ (hit.trans (congrArg Res.ok (rangeL_nv K)))
    (fun i e => ∃ d nums s7 t8 t9 t10 t11 t12, e = FE A c S d nums s6 s7 t8 t9 t10 t11 t12 .un .un ∧ NR c ((14 - i) * 62 + 40000) d nums ∧ nums.length = 2 + c + i) ⟨d1, nums1, .un, .un, .un, .un, .un, .un, rfl, nr1, by omega⟩ (fun i h e ⟨d, nums, s7, t8, t9, t10, t11, t12, he, hn, hl⟩ => by
      subst he
      rw [List.length_map, List.length_range] at h
      obtain ⟨r, d', u8, u9, u10, u11, u12, e1, e2, _⟩ := app_step ns c S ((14 - (i + 1)) * 62 + 40000) i (by omega) (by omega) d nums (by omega) (by omega) (by rw [show 62 + ((14 - (i + 1)) * 62 + 40000) = (14 - i) * 62 + 40000 by omega]; exact hn) s6 t8 t9 t10 t11 t12
      refine ⟨_, _, ?_, e1, d', nums ++ [r], _, u8, u9, u10, u11, u12, rfl, e2, by rw [List.length_append]; show nums.length + 1 = _; omega⟩
      rw [List.getElem_map, List.getElem_range]
      rfl)
  obtain ⟨d2, nums2, s7, t8, t9, t10, t11, t12, rfl, nr2, hl2⟩ := I2
  rw [List.length_map, List.length_range] at hl2 nr2
  have t7 : m__law_functions_6 (FE A c S d1 nums1 s6 .un .un .un .un .un .un .un .un) = m__law_functions_7 (FE A c S d2 nums2 s6 s7 t8 t9 t10 t11 t12 .un .un) := seq_ok r2
  refine ⟨c, d2, nums2, defnU_ret (e := [.sh A, .sh (iv c), .oT d2.tr, .sh (iv S), .sh (.lst (nums2.map iv)), .sh (.lst (rowsL S d2 nums2)), s6, s7, t8, t9, t10, t11, t12, .un, .un]) rfl ?_ rfl rfl (by show 3 < 1000; decide), hc5, ⟨⟨nr2.ok.gd, nr2.ok.c5, by have := nr2.ok.n1; omega, by have := nr2.ok.n2; omega⟩, nr2.c, nr2.lt⟩, by omega, by omega⟩
  show m__law_functions (E .un .un .un .un .un) = _
  rw [t1, t2, t3, t4, t5, t6, t7]
  rfl
end Lib
end Vm
end
noncomputable section
namespace Vm
open PySem
theorem sPutU_ok {i : Nat} {js : List Nat} {f : FnU} {m : EL} {env e : Env} {xs ys : List Val} {t : Tr} (h : m (hide env) = .ok xs) (hf : f xs = .ret t ys) (hi : i < env.length) (hp : putAll js ys (env.set i (.oT t)) = .ok e) : sPutU i js f m env = .next e := by
  unfold sPutU
  rw [h]
  show (match f xs with
    | .ret t ys => if i < env.length then (match putAll js ys (env.set i (.oT t)) with
      | .ok e => Flow.next e
      | _ => .bad) else .bad
    | .exc q => .exc q env
    | .bad => .bad) = _
  rw [hf]
  show (if i < env.length then _ else _) = _
  rw [if_pos hi, hp]
namespace Lib
open Dia
theorem rows_ix {S : Nat} {d : DG} {nums : List Nat} {k : Nat} (h : k < nums.length) : vIx (.lst (rowsL S d nums)) (.int (k : Int)) = .ok (rowB S (val d.ns nums[k])) := by
  rw [vIx_lst, atI_nat]
  unfold rowsL
  rw [List.getElem?_map, List.getElem?_eq_getElem h]
  rfl
theorem nums_ix {nums : List Nat} {k : Nat} (h : k < nums.length) : vIx (.lst (nums.map iv)) (.int (k : Int)) = .ok (iv nums[k]) := by
  rw [vIx_lst, atI_nat, List.getElem?_map, List.getElem?_eq_getElem h]
  rfl
/-- a table in a slot -/
theorem dgT_var {d : DG} {env : Env} {i : Nat} (h : env[i]? = some (.oT d.tr)) : eVar i env = .ok d.v := by
  unfold eVar
  rw [h]
  exact congrArg Res.ok d.tr_val
end Lib
end Vm
end
noncomputable section
namespace Vm
open PySem
theorem defn_excE {k n : Nat} {m : ST} {xs : List Val} {q : Exn} {e : Env} (hk : xs.length = k) (h : m (startE n xs) = .exc q e) : defn k n m xs = .exc q := by
  unfold defn
  rw [if_pos hk, h]
theorem defn_retE {k n : Nat} {m : ST} {xs : List Val} {y : Val} {e : Env} (hk : xs.length = k) (h : m (startE n xs) = .ret y e) : defn k n m xs = .ret y := by
  unfold defn
  rw [if_pos hk, h]
theorem eMeth_exc {c m : Str} {f : Fn} {a : EX} {r : EL} {env : Env} {fs : List (Str × Val)} {xs : List Val} {q : Exn} (ha : a env = .ok (.ob c fs)) (hr : r env = .ok xs) (hf : f (.ob c fs :: xs) = .exc q) (hn : fs.lookup m = none) : eMeth c m f a r env = .exc q := by
  unfold eMeth
  rw [ha]
  show (if c = c ∧ (fs.lookup m).isNone = true then (r env).bind fun xs => (f (.ob c fs :: xs)).res else .bad) = _
  rw [if_pos ⟨rfl, by rw [hn]; rfl⟩, hr]
  show (f (.ob c fs :: xs)).res = _
  rw [hf]
  rfl
theorem forL_exc {put : Put} {body : ST} {x : Val} {xs : List Val} {env e e' : Env} {q : Exn} (hp : put x env = .ok e) (hb : body e = .exc q e') : forL put body (x :: xs) env = .exc q e' := by
  show ((put x env).nx.flow env fun e => match body e with
    | .next e' => forL put body xs e'
    | .cont e' => forL put body xs e'
    | .brk e' => .next e'
    | .ret v e' => .ret v e'
    | .exc q e' => .exc q e'
    | .bad => .bad) = _
  rw [hp]
  show (match body e with
    | .next e' => forL put body xs e'
    | .cont e' => forL put body xs e'
    | .brk e' => .next e'
    | .ret v e' => .ret v e'
    | .exc q e' => .exc q e'
    | .bad => .bad) = _
  rw [hb]
theorem chain_lelt {a b c : EX} {env : Env} {x y z : Int} (ha : a env = .ok (.int x)) (hb : b env = .ok (.int y)) (hc : c env = .ok (.int z)) : bVal (eChain vLe vLt a b c) env = .ok (decide (x ≤ y ∧ y < z)) := by
  refine bVal_ok ?_
  unfold eChain
  rw [ha]
  show (b env).bind _ = _
  rw [hb]
  show (Res.ok (decide (x ≤ y))).bind (fun k => bif k then (c env).bind fun w => vLt (.int y) w else .ok (.bl false)) = _
  by_cases h : x ≤ y
  · rw [decide_eq_true h]
    show (c env).bind _ = _
    rw [hc]
    show Res.ok (Val.bl (decide (y < z))) = _
    congr 2
    simp [h]
  · rw [decide_eq_false h]
    show Res.ok (Val.bl false) = _
    congr 2
    rw [eq_comm, decide_eq_false_iff_not]
    exact fun z => h z.1
namespace Lib
open Dia
abbrev badD : Exn := ⟨"NoSuchThing", []⟩
theorem dlen {d : DG} {a : EX} {env : Env} (ha : a env = .ok d.v) : eArgs vLen (aCons (eFld "Diagrams" "_nodes" a) aNil) env = .ok (.int ((d.ns.length + 2 : Nat) : Int)) := by
  refine eArgs_ok (aCons_ok (dg_nodes (d := d) ha) rfl) ?_
  rw [vLen_lst, nodes_len]
/-- a number that is no node among the numbers -/
theorem dcheck_exc (d : DG) (xs : List Int) (h : ∃ x ∈ xs, ¬ (0 ≤ x ∧ x < (d.ns.length + 2 : Nat))) : f_Diagrams__check [d.v, .lst (xs.map .int)] = .exc badD := by
  have main : ∀ (ys : List Int) (s2 : Slot), (∃ x ∈ ys, ¬ (0 ≤ x ∧ x < (d.ns.length + 2 : Nat))) → ∃ e, forL (pName 2) m_Diagrams__check_a_L (ys.map .int) [.sh d.v, .sh (.lst (xs.map .int)), s2] = .exc badD e := by
    intro ys
    induction ys with
    | nil => rintro _ ⟨x, hx, _⟩; cases hx
    | cons y ys ih =>
      intro s2 hy
      let E : Env := [.sh d.v, .sh (.lst (xs.map .int)), .sh (.int y)]
      have hc : bNot (bVal (eChain vLe vLt (eC (.int 0)) (eVar 2) (eArgs vLen (aCons (eFld "Diagrams" "_nodes" (eVar 0)) aNil)))) E = .ok (!decide (0 ≤ y ∧ y < ((d.ns.length + 2 : Nat) : Int))) := bNot_ok (chain_lelt rfl rfl (dlen (d := d) rfl))
      by_cases hb : 0 ≤ y ∧ y < ((d.ns.length + 2 : Nat) : Int)
      · rw [decide_eq_true hb] at hc
        obtain ⟨e, he⟩ := ih (.sh (.int y)) (by
          obtain ⟨x, hx, hn⟩ := hy
          rcases List.mem_cons.mp hx with rfl | hx
          · exact absurd hb hn
          · exact ⟨x, hx, hn⟩)
        exact ⟨e, (forL_next (e := E) rfl (sIf_no hc)).trans he⟩
      · rw [decide_eq_false hb] at hc
        refine ⟨E, forL_exc (e := E) rfl ?_⟩
        show m_Diagrams__check_a_L E = _
        unfold m_Diagrams__check_a_L
        rw [sIf_yes hc]
        rfl
  obtain ⟨e, he⟩ := main xs .un h
  exact defn_excE rfl he
theorem dchk_exc {d : DG} {a b : EX} {env : Env} (xs : List Int) (h : ∃ x ∈ xs, ¬ (0 ≤ x ∧ x < (d.ns.length + 2 : Nat))) (ha : a env = .ok d.v) (hb : b env = .ok (.lst (xs.map .int))) : sDrop (eMeth "Diagrams" "_check" f_Diagrams__check a (aCons b aNil)) env = .exc badD env :=
  sDrop_exc (eMeth_exc ha (aCons_ok hb rfl) (dcheck_exc d xs h) rfl)
end Lib
end Vm
end
noncomputable section
namespace Vm
namespace K90
open PySem
abbrev m_Diagrams___init__ : ST := Lib.m_Diagrams___init__
abbrev f_Diagrams___init__ : MFn := Lib.f_Diagrams___init__
abbrev m__law_parts : ST := Lib.m__law_parts
abbrev f__law_parts : Fn := Lib.f__law_parts
abbrev m_Diagrams__check : ST := Lib.m_Diagrams__check
abbrev f_Diagrams__check : Fn := Lib.f_Diagrams__check
abbrev m_Diagrams__top : ST := Lib.m_Diagrams__top
abbrev f_Diagrams__top : Fn := Lib.f_Diagrams__top
abbrev m_Diagrams__found : ST := Lib.m_Diagrams__found
abbrev f_Diagrams__found : MFn := Lib.f_Diagrams__found
abbrev m_Diagrams__side : ST := Lib.m_Diagrams__side
abbrev f_Diagrams__side : Fn := Lib.f_Diagrams__side
abbrev m_Diagrams__chosen := Lib.m_Diagrams__chosen
abbrev fr_Diagrams__chosen := Lib.fr_Diagrams__chosen
abbrev f_Diagrams__chosen : MFn := Lib.f_Diagrams__chosen
abbrev m_Diagrams_choose : ST := Lib.m_Diagrams_choose
abbrev f_Diagrams_choose : MFn := Lib.f_Diagrams_choose
abbrev m_Diagrams_negate : ST := Lib.m_Diagrams_negate
abbrev f_Diagrams_negate : MFn := Lib.f_Diagrams_negate
abbrev m_Diagrams_differ : ST := Lib.m_Diagrams_differ
abbrev f_Diagrams_differ : MFn := Lib.f_Diagrams_differ
abbrev m_Diagrams_both : ST := Lib.m_Diagrams_both
abbrev f_Diagrams_both : MFn := Lib.f_Diagrams_both
abbrev m_Diagrams_either : ST := Lib.m_Diagrams_either
abbrev f_Diagrams_either : MFn := Lib.f_Diagrams_either
abbrev m__law_apply : ST := Lib.m__law_apply
abbrev f__law_apply : MFn := Lib.f__law_apply
abbrev m__law_cell : ST := Lib.m__law_cell
abbrev f__law_cell : Fn := Lib.f__law_cell
abbrev m_Diagrams_variable : ST := Lib.m_Diagrams_variable
abbrev f_Diagrams_variable : MFn := Lib.f_Diagrams_variable
abbrev m__law_bits : ST := Lib.m__law_bits
abbrev f__law_bits : Fn := Lib.f__law_bits
abbrev m__law_functions : ST := Lib.m__law_functions
abbrev f__law_functions : FnU := Lib.f__law_functions
abbrev m_check_bits : ST := Lib.m_check_bits
abbrev f_check_bits : Fn := Lib.f_check_bits
abbrev m_Diagrams_value : ST := Lib.m_Diagrams_value
abbrev f_Diagrams_value : Fn := Lib.f_Diagrams_value
def m__law_refusal_a_T : ST := (sDrop (eMeth "Diagrams" "value" f_Diagrams_value (eVar 0) (aCons (eVar 1) (aCons (eVar 2) aNil))))
def m__law_refusal_1 : ST := (sRet (eC (.str "")))
def m__law_refusal : ST := (sSeq (sTry2 tb_NoSuchThing tb_InvalidValues m__law_refusal_a_T (sRet (eC (.str "node"))) (sRet (eC (.str "bits"))))
    m__law_refusal_1)
def f__law_refusal : Fn := defn 3 3 m__law_refusal
def m_Diagrams_size : ST := (sRet (eArgs vLen (aCons (eFld "Diagrams" "_nodes" (eVar 0)) aNil)))
def f_Diagrams_size : Fn := defn 1 1 m_Diagrams_size
abbrev m_Diagrams_first_case : ST := Lib.m_Diagrams_first_case
abbrev f_Diagrams_first_case : Fn := Lib.f_Diagrams_first_case
def m__law_called_5 : ST := (sRet (eMeth "Diagrams" "first_case" f_Diagrams_first_case (eVar 0) (aCons (e2 vIx (eVar 2) (eC (.int 0))) aNil)))
def m__law_called_4 : ST := (sSeq (sIf (bVal (e2 vEq (eVar 1) (eC (.int 4)))) (sRetM (mMeth "Diagrams" "differ" 0 f_Diagrams_differ (mCons (mH (e2 vIx (eVar 2) (eC (.int 0)))) (mCons (mH (e2 vIx (eVar 2) (eC (.int 1)))) mNil)))) sNext)
    m__law_called_5)
def m__law_called_3 : ST := (sSeq (sIf (bVal (e2 vEq (eVar 1) (eC (.int 3)))) (sRetM (mMeth "Diagrams" "either" 0 f_Diagrams_either (mCons (mH (e2 vIx (eVar 2) (eC (.int 0)))) (mCons (mH (e2 vIx (eVar 2) (eC (.int 1)))) mNil)))) sNext)
    m__law_called_4)
def m__law_called_2 : ST := (sSeq (sIf (bVal (e2 vEq (eVar 1) (eC (.int 2)))) (sRetM (mMeth "Diagrams" "both" 0 f_Diagrams_both (mCons (mH (e2 vIx (eVar 2) (eC (.int 0)))) (mCons (mH (e2 vIx (eVar 2) (eC (.int 1)))) mNil)))) sNext)
    m__law_called_3)
def m__law_called_1 : ST := (sSeq (sIf (bVal (e2 vEq (eVar 1) (eC (.int 1)))) (sRetM (mMeth "Diagrams" "negate" 0 f_Diagrams_negate (mCons (mH (e2 vIx (eVar 2) (eC (.int 0)))) mNil))) sNext)
    m__law_called_2)
def m__law_called : ST := (sSeq (sIf (bVal (e2 vEq (eVar 1) (eC (.int 0)))) (sRetM (mMeth "Diagrams" "choose" 0 f_Diagrams_choose (mCons (mH (e2 vIx (eVar 2) (eC (.int 0)))) (mCons (mH (e2 vIx (eVar 2) (eC (.int 1)))) (mCons (mH (e2 vIx (eVar 2) (eC (.int 2)))) mNil))))) sNext)
    m__law_called_1)
def f__law_called : MFn := defnM 2 3 m__law_called
def m__law_refuses_b_T : ST := (sDropM (mCall 0 f__law_called (mCons (mH (eVar 1)) (mCons (mH (eVar 2)) mNil))))
def m__law_refuses_2 : ST := (sRet (eC (.bl false)))
def m__law_refuses_1 : ST := (sSeq (sTry tb_NoSuchThing m__law_refuses_b_T fun _ => (sRet (e2 vEq (eMeth "Diagrams" "size" f_Diagrams_size (eVar 0) aNil) (eVar 3))))
    m__law_refuses_2)
def m__law_refuses : ST := (sSeq (sSetN 3 (eMeth "Diagrams" "size" f_Diagrams_size (eVar 0) aNil))
    m__law_refuses_1)
def f__law_refuses : MFn := defnM 2 4 m__law_refuses
abbrev m__law_is_integer : ST := Lib.m__law_is_integer
abbrev f__law_is_integer : Fn := Lib.f__law_is_integer
def m_law_ba_1 : ST := (sIf (bOr (bNot (bTruth (eCall f__law_is_integer (aCons (eVar 14) aNil)))) (bVal (e2 vNe (eVar 14) (e2 vIx (e2 vIx (eVar 11) (eVar 1)) (eVar 12))))) (sRet (eC (.bl false))) sNext)
def m_law_ba_L : ST := (sSeq (sSetN 14 (eMeth "Diagrams" "value" f_Diagrams_value (eVar 8) (aCons (e2 vIx (eVar 10) (eVar 1)) (aCons (eCall f__law_bits (aCons (eVar 12) (aCons (eVar 9) aNil))) aNil))))
    m_law_ba_1)
def m_law_ba_F : ST := (sFor (iRange1 (eArgs vLen (aCons (e2 vIx (eVar 11) (eVar 1)) aNil))) (pName 12) m_law_ba_L)
def m_law_b_F : ST := (sFor (iRange1 (eArgs vLen (aCons (eVar 10) aNil))) (pName 1) m_law_ba_F)
def m_law_l_3 : ST := (sIfM (bmNot (bmT (mCall 8 f__law_refuses (mCons (mH (e2 vIx (eVar 2) (eC (.int 1)))) (mCons (mH (eVar 13)) mNil))))) (sRet (eC (.bl false))) sNext)
def m_law_l_2 : ST := (sSeq (sFreeze 13) m_law_l_3)
def m_law_l_1 : ST := (sSeq (sOn 13 (sItem 13 (eVar 1) (eVar 5)))
    m_law_l_2)
def m_law_l_L : ST := (sSeq (sOwn 13 (eArgs vLst (aCons (eVar 6) (aCons (eVar 6) (aCons (eVar 6) aNil)))))
    m_law_l_1)
def m_law_l_F : ST := (sFor (iRange1 (eVar 7)) (pName 1) m_law_l_L)
def m_law_12 : ST := (sRet (eC (.bl true)))
def m_law_11 : ST := (sSeq m_law_l_F
    m_law_12)
def m_law_10 : ST := (sSeq (sSet 7 (e2 vIx (eArgs vLst (aCons (eC (.int 3)) (aCons (eC (.int 1)) (aCons (eC (.int 2)) (aCons (eC (.int 2)) (aCons (eC (.int 2)) (aCons (eC (.int 1)) aNil))))))) (e2 vIx (eVar 2) (eC (.int 1)))))
    m_law_11)
def m_law_9 : ST := (sSeq (sIf (bOr (bVal (e2 vNe (eCall f__law_refusal (aCons (eVar 8) (aCons (eVar 5) (aCons (eVar 4) aNil)))) (eC (.str "node")))) (bVal (e2 vNe (eCall f__law_refusal (aCons (eVar 8) (aCons (eVar 5) (aCons (eVar 3) aNil)))) (eC (.str "node"))))) (sRet (eC (.bl false))) sNext)
    m_law_10)
def m_law_8 : ST := (sSeq (sIf (bVal (e2 vNe (eCall f__law_refusal (aCons (eVar 8) (aCons (eVar 6) (aCons (eVar 4) aNil)))) (eC (.str "bits")))) (sRet (eC (.bl false))) sNext)
    m_law_9)
def m_law_7 : ST := (sSeq (sSet 6 (e2 vIx (eVar 10) (e2 vMod (eArgs vInt (aCons (e2 vIx (eVar 2) (eC (.int 4))) aNil)) (eArgs vLen (aCons (eVar 10) aNil)))))
    m_law_8)
def m_law_6 : ST := (sSeq (sSetN 5 (e2 vIx (eArgs vLst (aCons (e1 vNeg (eC (.int 1))) (aCons (eMeth "Diagrams" "size" f_Diagrams_size (eVar 8) aNil) (aCons (e2 vAdd (e2 vAdd (eMeth "Diagrams" "size" f_Diagrams_size (eVar 8) aNil) (eC (.int 1))) (e2 vIx (eVar 2) (eC (.int 3)))) aNil)))) (e2 vIx (eVar 2) (eC (.int 2)))))
    m_law_7)
def m_law_5 : ST := (sSeq (sIf (bVal (e2 vEq (eVar 9) (eC (.int 0)))) (sSet 4 (eArgs vLst (aCons (eC (.int 0)) aNil))) sNext)
    m_law_6)
def m_law_4 : ST := (sSeq (sSet 4 (e2 vIx (eArgs vLst (aCons (e2 vAdd (eVar 3) (eArgs vLst (aCons (eC (.int 0)) aNil))) (aCons (eCut (eVar 3) (some (eC (.int 1))) none) (aCons (e2 vAdd (eCut (eVar 3) none (some (e1 vNeg (eC (.int 1))))) (eArgs vLst (aCons (eC (.int 2)) aNil))) aNil)))) (e2 vIx (eVar 2) (eC (.int 0)))))
    m_law_5)
def m_law_3 : ST := (sSeq (sSet 3 (eCall f__law_bits (aCons (e2 vIx (eVar 2) (eC (.int 4))) (aCons (eVar 9) aNil))))
    m_law_4)
def m_law_2 : ST := (sSeq (sSet 2 (eCall f__law_parts (aCons (eCall f__law_cell (aCons (eVar 0) (aCons (eC (.int 15)) aNil))) (aCons (eArgs vLst (aCons (eC (.int 3)) (aCons (eC (.int 6)) (aCons (eC (.int 3)) (aCons (e2 vPow (eC (.int 10)) (eC (.int 9))) (aCons (eC (.int 60)) aNil)))))) aNil))))
    m_law_3)
def m_law_1 : ST := (sSeq m_law_b_F
    m_law_2)
def m_law : ST := (sSeq (sPutU 8 [9, 10, 11] f__law_functions (aCons (eVar 0) aNil))
    m_law_1)
def f_law : Fn := defn 1 15 m_law
end K90
end Vm
end
namespace Vm
namespace K90
open PySem L2 PyProof.Rows
structure Glb (w : World) (K : PySem.W.Frag) (mg : Str → Option Value) : Prop where
  u_range : mg "range" = none
  u_len : mg "len" = none
  u_int : mg "int" = none
  u_max : mg "max" = none
  u_min : mg "min" = none
  u_isinstance : mg "isinstance" = none
  u_bool : mg "bool" = none
  g_ONE : ∃ t, mg "ONE" = some (.int 1 t)
  g_ZERO : ∃ t, mg "ZERO" = some (.int 0 t)
  x_NoSuchThing : XC K mg "NoSuchThing"
  x_InvalidValues : XC K mg "InvalidValues"
  t_NoSuchThing : ∀ p ∈ tb_NoSuchThing, PySem.W.exmOne K (.ref (He.ga K p.1)) (.ref (He.ga K "NoSuchThing")) = some p.2
  t_InvalidValues : ∀ p ∈ tb_InvalidValues, PySem.W.exmOne K (.ref (He.ga K p.1)) (.ref (He.ga K "InvalidValues")) = some p.2
  D_Diagrams___init__ : ∃ fd, L2.FunD K "__init__" "Diagrams.__init__" (defArgs (inClass (T 9) 0)) (defBody (inClass (T 9) 0)) (defScope (inClass (T 9) 0)) [] [] (He.ma K (He.ga K "Diagrams") "__init__") fd
  a_Diagrams : mg "Diagrams" = some (.ref (He.ga K "Diagrams"))
  mk_Diagrams : L2.Mk K (He.ga K "Diagrams") (He.ma K (He.ga K "Diagrams") "__init__")
  a__law_parts : mg "_law_parts" = some (.ref (He.ga K "_law_parts"))
  D__law_parts : ∃ fd, L2.FunD K "_law_parts" "_law_parts" (defArgs (T 12)) (defBody (T 12)) (defScope (T 12)) [] [] (He.ga K "_law_parts") fd
  D_Diagrams__check : ∃ fd, L2.FunD K "_check" "Diagrams._check" (defArgs (inClass (T 9) 1)) (defBody (inClass (T 9) 1)) (defScope (inClass (T 9) 1)) [] [] (He.ma K (He.ga K "Diagrams") "_check") fd
  mt_Diagrams__check : L2.Meth K (He.ga K "Diagrams") "_check" (He.ma K (He.ga K "Diagrams") "_check")
  D_Diagrams__top : ∃ fd, L2.FunD K "_top" "Diagrams._top" (defArgs (inClass (T 9) 3)) (defBody (inClass (T 9) 3)) (defScope (inClass (T 9) 3)) [] [] (He.ma K (He.ga K "Diagrams") "_top") fd
  mt_Diagrams__top : L2.Meth K (He.ga K "Diagrams") "_top" (He.ma K (He.ga K "Diagrams") "_top")
  D_Diagrams__found : ∃ fd, L2.FunD K "_found" "Diagrams._found" (defArgs (inClass (T 9) 2)) (defBody (inClass (T 9) 2)) (defScope (inClass (T 9) 2)) [] [] (He.ma K (He.ga K "Diagrams") "_found") fd
  mt_Diagrams__found : L2.Meth K (He.ga K "Diagrams") "_found" (He.ma K (He.ga K "Diagrams") "_found")
  D_Diagrams__side : ∃ fd, L2.FunD K "_side" "Diagrams._side" (defArgs (inClass (T 9) 4)) (defBody (inClass (T 9) 4)) (defScope (inClass (T 9) 4)) [] [] (He.ma K (He.ga K "Diagrams") "_side") fd
  mt_Diagrams__side : L2.Meth K (He.ga K "Diagrams") "_side" (He.ma K (He.ga K "Diagrams") "_side")
  D_Diagrams__chosen : ∃ fd, L2.FunD K "_chosen" "Diagrams._chosen" (defArgs (inClass (T 9) 5)) (defBody (inClass (T 9) 5)) (defScope (inClass (T 9) 5)) [] [] (He.ma K (He.ga K "Diagrams") "_chosen") fd
  mt_Diagrams__chosen : L2.Meth K (He.ga K "Diagrams") "_chosen" (He.ma K (He.ga K "Diagrams") "_chosen")
  D_Diagrams_choose : ∃ fd, L2.FunD K "choose" "Diagrams.choose" (defArgs (inClass (T 9) 9)) (defBody (inClass (T 9) 9)) (defScope (inClass (T 9) 9)) [] [] (He.ma K (He.ga K "Diagrams") "choose") fd
  mt_Diagrams_choose : L2.Meth K (He.ga K "Diagrams") "choose" (He.ma K (He.ga K "Diagrams") "choose")
  D_Diagrams_negate : ∃ fd, L2.FunD K "negate" "Diagrams.negate" (defArgs (inClass (T 9) 10)) (defBody (inClass (T 9) 10)) (defScope (inClass (T 9) 10)) [] [] (He.ma K (He.ga K "Diagrams") "negate") fd
  mt_Diagrams_negate : L2.Meth K (He.ga K "Diagrams") "negate" (He.ma K (He.ga K "Diagrams") "negate")
  D_Diagrams_differ : ∃ fd, L2.FunD K "differ" "Diagrams.differ" (defArgs (inClass (T 9) 13)) (defBody (inClass (T 9) 13)) (defScope (inClass (T 9) 13)) [] [] (He.ma K (He.ga K "Diagrams") "differ") fd
  mt_Diagrams_differ : L2.Meth K (He.ga K "Diagrams") "differ" (He.ma K (He.ga K "Diagrams") "differ")
  D_Diagrams_both : ∃ fd, L2.FunD K "both" "Diagrams.both" (defArgs (inClass (T 9) 11)) (defBody (inClass (T 9) 11)) (defScope (inClass (T 9) 11)) [] [] (He.ma K (He.ga K "Diagrams") "both") fd
  mt_Diagrams_both : L2.Meth K (He.ga K "Diagrams") "both" (He.ma K (He.ga K "Diagrams") "both")
  D_Diagrams_either : ∃ fd, L2.FunD K "either" "Diagrams.either" (defArgs (inClass (T 9) 12)) (defBody (inClass (T 9) 12)) (defScope (inClass (T 9) 12)) [] [] (He.ma K (He.ga K "Diagrams") "either") fd
  mt_Diagrams_either : L2.Meth K (He.ga K "Diagrams") "either" (He.ma K (He.ga K "Diagrams") "either")
  a__law_apply : mg "_law_apply" = some (.ref (He.ga K "_law_apply"))
  D__law_apply : ∃ fd, L2.FunD K "_law_apply" "_law_apply" (defArgs (T 15)) (defBody (T 15)) (defScope (T 15)) [] [] (He.ga K "_law_apply") fd
  a__law_cell : mg "_law_cell" = some (.ref (He.ga K "_law_cell"))
  D__law_cell : ∃ fd, L2.FunD K "_law_cell" "_law_cell" (defArgs (T 11)) (defBody (T 11)) (defScope (T 11)) [] [] (He.ga K "_law_cell") fd
  D_Diagrams_variable : ∃ fd, L2.FunD K "variable" "Diagrams.variable" (defArgs (inClass (T 9) 8)) (defBody (inClass (T 9) 8)) (defScope (inClass (T 9) 8)) [] [] (He.ma K (He.ga K "Diagrams") "variable") fd
  mt_Diagrams_variable : L2.Meth K (He.ga K "Diagrams") "variable" (He.ma K (He.ga K "Diagrams") "variable")
  a__law_bits : mg "_law_bits" = some (.ref (He.ga K "_law_bits"))
  D__law_bits : ∃ fd, L2.FunD K "_law_bits" "_law_bits" (defArgs (T 14)) (defBody (T 14)) (defScope (T 14)) [] [] (He.ga K "_law_bits") fd
  a__law_functions : mg "_law_functions" = some (.ref (He.ga K "_law_functions"))
  D__law_functions : ∃ fd, L2.FunD K "_law_functions" "_law_functions" (defArgs (T 16)) (defBody (T 16)) (defScope (T 16)) [] [] (He.ga K "_law_functions") fd
  a_check_bits : mg "check_bits" = some (.ref (He.ga K "check_bits"))
  D_check_bits : ∃ fd, L2.FunD K "check_bits" "check_bits" (defArgs (T 5)) (defBody (T 5)) (defScope (T 5)) [] [] (He.ga K "check_bits") fd
  D_Diagrams_value : ∃ fd, L2.FunD K "value" "Diagrams.value" (defArgs (inClass (T 9) 14)) (defBody (inClass (T 9) 14)) (defScope (inClass (T 9) 14)) [] [] (He.ma K (He.ga K "Diagrams") "value") fd
  mt_Diagrams_value : L2.Meth K (He.ga K "Diagrams") "value" (He.ma K (He.ga K "Diagrams") "value")
  a__law_refusal : mg "_law_refusal" = some (.ref (He.ga K "_law_refusal"))
  D__law_refusal : ∃ fd, L2.FunD K "_law_refusal" "_law_refusal" (defArgs (T 17)) (defBody (T 17)) (defScope (T 17)) [] [] (He.ga K "_law_refusal") fd
  D_Diagrams_size : ∃ fd, L2.FunD K "size" "Diagrams.size" (defArgs (inClass (T 9) 6)) (defBody (inClass (T 9) 6)) (defScope (inClass (T 9) 6)) [] [] (He.ma K (He.ga K "Diagrams") "size") fd
  mt_Diagrams_size : L2.Meth K (He.ga K "Diagrams") "size" (He.ma K (He.ga K "Diagrams") "size")
  D_Diagrams_first_case : ∃ fd, L2.FunD K "first_case" "Diagrams.first_case" (defArgs (inClass (T 9) 15)) (defBody (inClass (T 9) 15)) (defScope (inClass (T 9) 15)) [] [] (He.ma K (He.ga K "Diagrams") "first_case") fd
  mt_Diagrams_first_case : L2.Meth K (He.ga K "Diagrams") "first_case" (He.ma K (He.ga K "Diagrams") "first_case")
  a__law_called : mg "_law_called" = some (.ref (He.ga K "_law_called"))
  D__law_called : ∃ fd, L2.FunD K "_law_called" "_law_called" (defArgs (T 18)) (defBody (T 18)) (defScope (T 18)) [] [] (He.ga K "_law_called") fd
  a__law_refuses : mg "_law_refuses" = some (.ref (He.ga K "_law_refuses"))
  D__law_refuses : ∃ fd, L2.FunD K "_law_refuses" "_law_refuses" (defArgs (T 19)) (defBody (T 19)) (defScope (T 19)) [] [] (He.ga K "_law_refuses") fd
  a__law_is_integer : mg "_law_is_integer" = some (.ref (He.ga K "_law_is_integer"))
  D__law_is_integer : ∃ fd, L2.FunD K "_law_is_integer" "_law_is_integer" (defArgs (T 13)) (defBody (T 13)) (defScope (T 13)) [] [] (He.ga K "_law_is_integer") fd
  a_law : mg "law" = some (.ref (He.ga K "law"))
  D_law : ∃ fd, L2.FunD K "law" "law" (defArgs (T 20)) (defBody (T 20)) (defScope (T 20)) [] [] (He.ga K "law") fd
  cl_Diagrams : L2.Cls K (He.ga K "Diagrams")
  no_Diagrams__count : L2.NoAttr K (He.ga K "Diagrams") "_count"
  no_Diagrams__nodes : L2.NoAttr K (He.ga K "Diagrams") "_nodes"
  no_Diagrams__numbers : L2.NoAttr K (He.ga K "Diagrams") "_numbers"
  no_Diagrams__choices : L2.NoAttr K (He.ga K "Diagrams") "_choices"
  kt_Diagrams : NoKT K (some st_Diagrams)
section
variable {P : Program} {w : World} {K : PySem.W.Frag} {mg : Str → Option Value} {base : Heap}
def N_Diagrams___init__ : List Str := ["self", "count"]
theorem s_Diagrams___init__ : FnScope N_Diagrams___init__ ["self", "count"] (defScope (inClass (T 9) 0)) := ⟨rfl, rfl, rfl, by decide +kernel, rfl, by decide +kernel, by decide +kernel⟩
set_option maxHeartbeats 0 in
theorem b_Diagrams___init__ (G : Glb w K mg) : Body P w K mg base (xr K) 0 N_Diagrams___init__ "Diagrams.__init__" (defScope (inClass (T 9) 0)) (defBody (inClass (T 9) 0)) m_Diagrams___init__ := by
  intro f cd A outer s H E W X tk F hr
  have nd : X.N.Nodup := s_Diagrams___init__.nd
  exact ⟨_, (ss_cons (ss_fldH G.cl_Diagrams G.no_Diagrams__count 0 (se_var 1))
    (ss_cons (ss_fldT G.cl_Diagrams G.no_Diagrams__nodes 0 (str_ofF (sf_lst (sa_cons se_non (sa_cons se_non sa_nil)))))
    (ss_cons (ss_fldT G.cl_Diagrams G.no_Diagrams__numbers 0 str_dictT)
    (ss_one (ss_fldT G.cl_Diagrams G.no_Diagrams__choices 0 str_dictT)))))⟩
theorem c_Diagrams___init__ (G : Glb w K mg) : MakM P w K mg base (xr K) "Diagrams" 1 1 f_Diagrams___init__ := by
  obtain ⟨fd, F⟩ := G.D_Diagrams___init__
  exact makM_of F G.mk_Diagrams G.a_Diagrams s_Diagrams___init__ (fun _ _ _ _ _ _ us hl => match us, hl with | [_, _], _ => rfl) rfl rfl (b_Diagrams___init__ G)
def N__law_parts : List Str := ["_law_cell_here", "_law_sizes", "_law_parts_here", "_law_rest", "_law_k", "_law_mixed"]
theorem s__law_parts : FnScope N__law_parts ["_law_cell_here", "_law_sizes"] (defScope (T 12)) := ⟨rfl, rfl, rfl, by decide +kernel, rfl, by decide +kernel, by decide +kernel⟩
set_option maxHeartbeats 0 in
theorem b__law_parts (G : Glb w K mg) : Body P w K mg base (xr K) 0 N__law_parts "_law_parts" (defScope (T 12)) (defBody (T 12)) m__law_parts := by
  intro f cd A outer s H E W X tk F hr
  have nd : X.N.Nodup := s__law_parts.nd
  exact ⟨_, (ss_cons (ss_own 2 (sf_lst sa_nil))
    (ss_cons (ss_set 3 (se_sub (se_var 0) (se_pow se_int se_int)))
    (ss_cons (ss_for F (si_rng1 G.u_range (se_len G.u_len (sa_cons (se_var 1) sa_nil))) (sg_name 4) (ss_one (ss_if (sb_cmp c_ge (se_var 3) se_int) (ss_cons (ss_app 2 (se_mod (se_intOf G.u_int (sa_cons (se_var 3) sa_nil)) (se_ix F (se_var 1) (se_var 4))))
    (ss_one (ss_set 3 (se_div (se_var 3) (se_ix F (se_var 1) (se_var 4)))))) (ss_cons (ss_set 5 (se_mod (se_intOf G.u_int (sa_cons (se_add (se_add (se_mul (se_var 0) se_int) (se_mul (se_var 4) se_int)) se_int) sa_nil)) se_int))
    (ss_cons (ss_set 5 (se_mod (se_intOf G.u_int (sa_cons (se_add (se_add (se_mul (se_var 5) (se_var 5)) (se_mul se_int (se_var 4))) se_int) sa_nil)) se_int))
    (ss_one (ss_app 2 (se_mod (se_intOf G.u_int (sa_cons (se_var 5) sa_nil)) (se_ix F (se_var 1) (se_var 4))))))))))
    (ss_freeze 2 (ss_one (ss_ret (se_var 2)))))))⟩
theorem c__law_parts (G : Glb w K mg) : Cal P w K mg base (xr K) "_law_parts" 1 2 f__law_parts := by
  obtain ⟨fd, F⟩ := G.D__law_parts
  exact cal_of F G.a__law_parts s__law_parts (fun _ _ _ _ _ _ us hl => match us, hl with | [_, _], _ => rfl) rfl rfl (b__law_parts G)
def N_Diagrams__check : List Str := ["self", "numbers", "number"]
theorem s_Diagrams__check : FnScope N_Diagrams__check ["self", "numbers"] (defScope (inClass (T 9) 1)) := ⟨rfl, rfl, rfl, by decide +kernel, rfl, by decide +kernel, by decide +kernel⟩
set_option maxHeartbeats 0 in
theorem b_Diagrams__check (G : Glb w K mg) : Body P w K mg base (xr K) 0 N_Diagrams__check "Diagrams._check" (defScope (inClass (T 9) 1)) (defBody (inClass (T 9) 1)) m_Diagrams__check := by
  intro f cd A outer s H E W X tk F hr
  have nd : X.N.Nodup := s_Diagrams__check.nd
  exact ⟨_, (ss_one (ss_for F (si_seq (se_var 1)) (sg_name 2) (ss_one (ss_if (sb_not (sb_chain c_le c_lt se_int (se_var 2) (se_len G.u_len (sa_cons (se_fld G.cl_Diagrams G.no_Diagrams__nodes (se_var 0)) sa_nil)))) (ss_one (ss_raise tk F.ca G.x_NoSuchThing)) ss_nil))))⟩
theorem c_Diagrams__check (G : Glb w K mg) : MetF P w K mg base (xr K) "Diagrams" "_check" 1 1 f_Diagrams__check := by
  obtain ⟨fd, F⟩ := G.D_Diagrams__check
  exact metF_of F G.mt_Diagrams__check G.cl_Diagrams s_Diagrams__check (fun _ _ _ _ _ _ us hl => match us, hl with | [_, _], _ => rfl) rfl rfl (b_Diagrams__check G)
def N_Diagrams__top : List Str := ["self", "numbers", "number"]
theorem s_Diagrams__top : FnScope N_Diagrams__top ["self", "numbers"] (defScope (inClass (T 9) 3)) := ⟨rfl, rfl, rfl, by decide +kernel, rfl, by decide +kernel, by decide +kernel⟩
set_option maxHeartbeats 0 in
theorem b_Diagrams__top (G : Glb w K mg) : Body P w K mg base (xr K) 0 N_Diagrams__top "Diagrams._top" (defScope (inClass (T 9) 3)) (defBody (inClass (T 9) 3)) m_Diagrams__top := by
  intro f cd A outer s H E W X tk F hr
  have nd : X.N.Nodup := s_Diagrams__top.nd
  exact ⟨_, (ss_one (ss_ret (se_max F G.u_max (sa_cons (SF.comp (sf_comp (own := [("number", 2)]) (te := (tOp (rIxV K) (tOp (rIxV K) (tFld K (tVar 0) "_nodes") (tVar 2)) (tC (.int 0)))) (tt := (tTest (tOp (rI0 fun i j => .bl (decide (j < i))) (tVar 2) (tC (.int 1))))) (g := (gName 2)) F (si_seq (se_var 1)) (fun s H Cc cl fp => (sg_name 2)) (fun s H Cc cl fp => (st_one (sb_cmp c_gt (se_var 2) (se_gi G.g_ONE)))) (fun s H Cc cl fp => (se_ix (F.blk _ _ _ _ _) (se_ix (F.blk _ _ _ _ _) (se_fld G.cl_Diagrams G.no_Diagrams__nodes (se_var 0)) (se_var 2)) se_int)))) sa_nil))))⟩
theorem c_Diagrams__top (G : Glb w K mg) : MetF P w K mg base (xr K) "Diagrams" "_top" 1 1 f_Diagrams__top := by
  obtain ⟨fd, F⟩ := G.D_Diagrams__top
  exact metF_of F G.mt_Diagrams__top G.cl_Diagrams s_Diagrams__top (fun _ _ _ _ _ _ us hl => match us, hl with | [_, _], _ => rfl) rfl rfl (b_Diagrams__top G)
def N_Diagrams__found : List Str := ["self", "variable", "low", "high", "node"]
theorem s_Diagrams__found : FnScope N_Diagrams__found ["self", "variable", "low", "high"] (defScope (inClass (T 9) 2)) := ⟨rfl, rfl, rfl, by decide +kernel, rfl, by decide +kernel, by decide +kernel⟩
set_option maxHeartbeats 0 in
theorem b_Diagrams__found (G : Glb w K mg) : Body P w K mg base (xr K) 0 N_Diagrams__found "Diagrams._found" (defScope (inClass (T 9) 2)) (defBody (inClass (T 9) 2)) m_Diagrams__found := by
  intro f cd A outer s H E W X tk F hr
  have nd : X.N.Nodup := s_Diagrams__found.nd
  exact ⟨_, (ss_cons (ss_if (sb_cmp (c_eq F) (se_var 2) (se_var 3)) (ss_one (ss_ret (se_var 2))) ss_nil)
    (ss_cons (ss_set 4 (se_tup (sa_cons (se_var 1) (sa_cons (se_var 2) (sa_cons (se_var 3) sa_nil)))))
    (ss_cons (ss_if (sb_cmp (c_niT F G.kt_Diagrams) (se_var 4) (se_fld G.cl_Diagrams G.no_Diagrams__numbers (se_var 0))) (ss_cons (ss_atPutN F G.kt_Diagrams (spl_fl G.cl_Diagrams G.no_Diagrams__numbers (spl_s 0)) (se_var 4) (se_len G.u_len (sa_cons (se_fld G.cl_Diagrams G.no_Diagrams__nodes (se_var 0)) sa_nil)))
    (ss_one (ss_atApp (spl_fl G.cl_Diagrams G.no_Diagrams__nodes (spl_s 0)) (se_var 4)))) ss_nil)
    (ss_one (ss_ret (se_ixT F G.kt_Diagrams (se_fld G.cl_Diagrams G.no_Diagrams__numbers (se_var 0)) (se_var 4)))))))⟩
theorem c_Diagrams__found (G : Glb w K mg) : MetM P w K mg base (xr K) "Diagrams" "_found" 1 3 f_Diagrams__found := by
  obtain ⟨fd, F⟩ := G.D_Diagrams__found
  exact metM_of F G.mt_Diagrams__found G.cl_Diagrams s_Diagrams__found (fun _ _ _ _ _ _ us hl => match us, hl with | [_, _, _, _], _ => rfl) rfl rfl (b_Diagrams__found G)
def N_Diagrams__side : List Str := ["self", "number", "variable", "bit"]
theorem s_Diagrams__side : FnScope N_Diagrams__side ["self", "number", "variable", "bit"] (defScope (inClass (T 9) 4)) := ⟨rfl, rfl, rfl, by decide +kernel, rfl, by decide +kernel, by decide +kernel⟩
set_option maxHeartbeats 0 in
theorem b_Diagrams__side (G : Glb w K mg) : Body P w K mg base (xr K) 0 N_Diagrams__side "Diagrams._side" (defScope (inClass (T 9) 4)) (defBody (inClass (T 9) 4)) m_Diagrams__side := by
  intro f cd A outer s H E W X tk F hr
  have nd : X.N.Nodup := s_Diagrams__side.nd
  exact ⟨_, (ss_cons (ss_if (sb_w (sw_or (sb_cmp c_le (se_var 1) (se_gi G.g_ONE)) (sw_or1 (sb_cmp (c_ne F) (se_ix F (se_ix F (se_fld G.cl_Diagrams G.no_Diagrams__nodes (se_var 0)) (se_var 1)) se_int) (se_var 2))))) (ss_one (ss_ret (se_var 1))) ss_nil)
    (ss_one (ss_ret (se_ix F (se_ix F (se_fld G.cl_Diagrams G.no_Diagrams__nodes (se_var 0)) (se_var 1)) (se_add se_int (se_var 3))))))⟩
theorem c_Diagrams__side (G : Glb w K mg) : MetF P w K mg base (xr K) "Diagrams" "_side" 1 3 f_Diagrams__side := by
  obtain ⟨fd, F⟩ := G.D_Diagrams__side
  exact metF_of F G.mt_Diagrams__side G.cl_Diagrams s_Diagrams__side (fun _ _ _ _ _ _ us hl => match us, hl with | [_, _, _, _], _ => rfl) rfl rfl (b_Diagrams__side G)
def N_Diagrams__chosen : List Str := ["self", "f", "g", "h", "top", "sides", "bit", "parts", "number"]
theorem s_Diagrams__chosen : FnScope N_Diagrams__chosen ["self", "f", "g", "h"] (defScope (inClass (T 9) 5)) := ⟨rfl, rfl, rfl, by decide +kernel, rfl, by decide +kernel, by decide +kernel⟩
set_option maxHeartbeats 0 in
theorem b_Diagrams__chosen (G : Glb w K mg) (n : Nat) (R : MFn) (ih : MetM P w K mg base (xr K) "Diagrams" "_chosen" (2 + n) 3 R) : Body P w K mg base (xr K) (2 + n) N_Diagrams__chosen "Diagrams._chosen" (defScope (inClass (T 9) 5)) (defBody (inClass (T 9) 5)) (m_Diagrams__chosen R) := by
  intro f cd A outer s H E W X tk F hr
  have nd : X.N.Nodup := s_Diagrams__chosen.nd
  exact ⟨_, (ss_cons (ss_if (sb_w (sw_or (sb_cmp (c_eq F) (se_var 1) (se_gi G.g_ONE)) (sw_or1 (sb_cmp (c_eq F) (se_var 2) (se_var 3))))) (ss_one (ss_ret (se_var 2))) ss_nil)
    (ss_cons (ss_if (sb_cmp (c_eq F) (se_var 1) (se_gi G.g_ZERO)) (ss_one (ss_ret (se_var 3))) ss_nil)
    (ss_cons (ss_if (sb_cmp (c_niT F G.kt_Diagrams) (se_tup (sa_cons (se_var 1) (sa_cons (se_var 2) (sa_cons (se_var 3) sa_nil)))) (se_fld G.cl_Diagrams G.no_Diagrams__choices (se_var 0))) (ss_cons (ss_setN 4 (se_meth (c_Diagrams__top G) (hr.mono (by omega)) F.le (se_var 0) (sa_cons (se_lst (sa_cons (se_var 1) (sa_cons (se_var 2) (sa_cons (se_var 3) sa_nil)))) sa_nil)))
    (ss_cons (ss_own 5 (sf_lst sa_nil))
    (ss_cons (ss_for F (si_rng1 G.u_range se_int) (sg_name 6) (ss_cons (ss_ownLcN 7 (sfc_comp (own := [("number", 8)]) (te := (tMethS (He.ga K "Diagrams") "_side" (spF K (xr K) 4 f_Diagrams__side) (CE (C0 ⟨xr K, some W⟩)) (tVar 0) (tCons (tVar 8) (tCons (tVar 4) (tCons (tVar 6) tNil))))) (tt := tYes) (g := (gName 8)) F (si_seq (se_tup (sa_cons (se_var 1) (sa_cons (se_var 2) (sa_cons (se_var 3) sa_nil))))) (fun s H Cc cl fp => (sg_name 8)) (fun s H Cc cl fp => st_nil) (fun s H Cc cl fp => (se_meth (c_Diagrams__side G) (hr.mono (by omega)) (F.blk _ _ _ _ _).le (se_var 0) (sa_cons (se_var 8) (sa_cons (se_var 4) (sa_cons (se_var 6) sa_nil)))))))
    (ss_freeze 7 (ss_one (ss_appendM 5 (sm_meth 0 ih hr F.le (sam_cons (sm_h (se_ix F (se_var 7) se_int)) (sam_cons (sm_h (se_ix F (se_var 7) se_int)) (sam_cons (sm_h (se_ix F (se_var 7) se_int)) sam_nil)))))))))
    (ss_freeze 5 (ss_one (ss_atPutM F G.kt_Diagrams (spl_fl G.cl_Diagrams G.no_Diagrams__choices (spl_s 0)) (se_tup (sa_cons (se_var 1) (sa_cons (se_var 2) (sa_cons (se_var 3) sa_nil)))) (sm_meth 0 (c_Diagrams__found G) (hr.mono (by omega)) F.le (sam_cons (sm_h (se_var 4)) (sam_cons (sm_h (se_ix F (se_var 5) se_int)) (sam_cons (sm_h (se_ix F (se_var 5) se_int)) sam_nil)))))))))) ss_nil)
    (ss_one (ss_ret (se_ixT F G.kt_Diagrams (se_fld G.cl_Diagrams G.no_Diagrams__choices (se_var 0)) (se_tup (sa_cons (se_var 1) (sa_cons (se_var 2) (sa_cons (se_var 3) sa_nil))))))))))⟩
theorem cr_Diagrams__chosen (G : Glb w K mg) : ∀ n : Nat, MetM P w K mg base (xr K) "Diagrams" "_chosen" (2 + n) 3 (fr_Diagrams__chosen n)
  | 0 => by
    obtain ⟨fd, F⟩ := G.D_Diagrams__chosen
    exact ⟨⟨_, fd, _, FnOk.none (fun _ _ _ _ ⟨_, _, _, _, _, _, _, _, _, _, _, _, _, z⟩ => z), G.mt_Diagrams__chosen, F.bindsN (ps := ["self", "f", "g", "h"]) (fun _ _ _ _ _ _ us hl => match us, hl with | [_, _, _, _], _ => rfl)⟩, G.cl_Diagrams, fun _ _ h => absurd rfl h⟩
  | n + 1 => by
    obtain ⟨fd, F⟩ := G.D_Diagrams__chosen
    exact metM_of F G.mt_Diagrams__chosen G.cl_Diagrams s_Diagrams__chosen (fun _ _ _ _ _ _ us hl => match us, hl with | [_, _, _, _], _ => rfl) rfl rfl (b_Diagrams__chosen G n _ (cr_Diagrams__chosen G n))
theorem c_Diagrams__chosen (G : Glb w K mg) : MetM P w K mg base (xr K) "Diagrams" "_chosen" 22 3 f_Diagrams__chosen := cr_Diagrams__chosen G 20
def N_Diagrams_choose : List Str := ["self", "f", "g", "h"]
theorem s_Diagrams_choose : FnScope N_Diagrams_choose ["self", "f", "g", "h"] (defScope (inClass (T 9) 9)) := ⟨rfl, rfl, rfl, by decide +kernel, rfl, by decide +kernel, by decide +kernel⟩
set_option maxHeartbeats 0 in
theorem b_Diagrams_choose (G : Glb w K mg) : Body P w K mg base (xr K) 22 N_Diagrams_choose "Diagrams.choose" (defScope (inClass (T 9) 9)) (defBody (inClass (T 9) 9)) m_Diagrams_choose := by
  intro f cd A outer s H E W X tk F hr
  have nd : X.N.Nodup := s_Diagrams_choose.nd
  exact ⟨_, (ss_cons (ss_expr (se_meth (c_Diagrams__check G) (hr.mono (by decide)) F.le (se_var 0) (sa_cons (se_lst (sa_cons (se_var 1) (sa_cons (se_var 2) (sa_cons (se_var 3) sa_nil)))) sa_nil)))
    (ss_one (ss_retM (sm_meth 0 (c_Diagrams__chosen G) hr F.le (sam_cons (sm_h (se_var 1)) (sam_cons (sm_h (se_var 2)) (sam_cons (sm_h (se_var 3)) sam_nil)))))))⟩
theorem c_Diagrams_choose (G : Glb w K mg) : MetM P w K mg base (xr K) "Diagrams" "choose" 23 3 f_Diagrams_choose := by
  obtain ⟨fd, F⟩ := G.D_Diagrams_choose
  exact metM_of F G.mt_Diagrams_choose G.cl_Diagrams s_Diagrams_choose (fun _ _ _ _ _ _ us hl => match us, hl with | [_, _, _, _], _ => rfl) rfl rfl (b_Diagrams_choose G)
def N_Diagrams_negate : List Str := ["self", "f"]
theorem s_Diagrams_negate : FnScope N_Diagrams_negate ["self", "f"] (defScope (inClass (T 9) 10)) := ⟨rfl, rfl, rfl, by decide +kernel, rfl, by decide +kernel, by decide +kernel⟩
set_option maxHeartbeats 0 in
theorem b_Diagrams_negate (G : Glb w K mg) : Body P w K mg base (xr K) 23 N_Diagrams_negate "Diagrams.negate" (defScope (inClass (T 9) 10)) (defBody (inClass (T 9) 10)) m_Diagrams_negate := by
  intro f cd A outer s H E W X tk F hr
  have nd : X.N.Nodup := s_Diagrams_negate.nd
  exact ⟨_, (ss_one (ss_retM (sm_meth 0 (c_Diagrams_choose G) hr F.le (sam_cons (sm_h (se_var 1)) (sam_cons (sm_h (se_gi G.g_ZERO)) (sam_cons (sm_h (se_gi G.g_ONE)) sam_nil))))))⟩
theorem c_Diagrams_negate (G : Glb w K mg) : MetM P w K mg base (xr K) "Diagrams" "negate" 24 1 f_Diagrams_negate := by
  obtain ⟨fd, F⟩ := G.D_Diagrams_negate
  exact metM_of F G.mt_Diagrams_negate G.cl_Diagrams s_Diagrams_negate (fun _ _ _ _ _ _ us hl => match us, hl with | [_, _], _ => rfl) rfl rfl (b_Diagrams_negate G)
def N_Diagrams_differ : List Str := ["self", "f", "g"]
theorem s_Diagrams_differ : FnScope N_Diagrams_differ ["self", "f", "g"] (defScope (inClass (T 9) 13)) := ⟨rfl, rfl, rfl, by decide +kernel, rfl, by decide +kernel, by decide +kernel⟩
set_option maxHeartbeats 0 in
theorem b_Diagrams_differ (G : Glb w K mg) : Body P w K mg base (xr K) 24 N_Diagrams_differ "Diagrams.differ" (defScope (inClass (T 9) 13)) (defBody (inClass (T 9) 13)) m_Diagrams_differ := by
  intro f cd A outer s H E W X tk F hr
  have nd : X.N.Nodup := s_Diagrams_differ.nd
  exact ⟨_, (ss_cons (ss_expr (se_meth (c_Diagrams__check G) (hr.mono (by decide)) F.le (se_var 0) (sa_cons (se_lst (sa_cons (se_var 1) (sa_cons (se_var 2) sa_nil))) sa_nil)))
    (ss_one (ss_retM (sm_meth 0 (c_Diagrams_choose G) (hr.mono (by decide)) F.le (sam_cons (sm_h (se_var 1)) (sam_cons (sm_meth 0 (c_Diagrams_negate G) hr F.le (sam_cons (sm_h (se_var 2)) sam_nil)) (sam_cons (sm_h (se_var 2)) sam_nil)))))))⟩
theorem c_Diagrams_differ (G : Glb w K mg) : MetM P w K mg base (xr K) "Diagrams" "differ" 25 2 f_Diagrams_differ := by
  obtain ⟨fd, F⟩ := G.D_Diagrams_differ
  exact metM_of F G.mt_Diagrams_differ G.cl_Diagrams s_Diagrams_differ (fun _ _ _ _ _ _ us hl => match us, hl with | [_, _, _], _ => rfl) rfl rfl (b_Diagrams_differ G)
def N_Diagrams_both : List Str := ["self", "f", "g"]
theorem s_Diagrams_both : FnScope N_Diagrams_both ["self", "f", "g"] (defScope (inClass (T 9) 11)) := ⟨rfl, rfl, rfl, by decide +kernel, rfl, by decide +kernel, by decide +kernel⟩
set_option maxHeartbeats 0 in
theorem b_Diagrams_both (G : Glb w K mg) : Body P w K mg base (xr K) 23 N_Diagrams_both "Diagrams.both" (defScope (inClass (T 9) 11)) (defBody (inClass (T 9) 11)) m_Diagrams_both := by
  intro f cd A outer s H E W X tk F hr
  have nd : X.N.Nodup := s_Diagrams_both.nd
  exact ⟨_, (ss_one (ss_retM (sm_meth 0 (c_Diagrams_choose G) hr F.le (sam_cons (sm_h (se_var 1)) (sam_cons (sm_h (se_var 2)) (sam_cons (sm_h (se_gi G.g_ZERO)) sam_nil))))))⟩
theorem c_Diagrams_both (G : Glb w K mg) : MetM P w K mg base (xr K) "Diagrams" "both" 24 2 f_Diagrams_both := by
  obtain ⟨fd, F⟩ := G.D_Diagrams_both
  exact metM_of F G.mt_Diagrams_both G.cl_Diagrams s_Diagrams_both (fun _ _ _ _ _ _ us hl => match us, hl with | [_, _, _], _ => rfl) rfl rfl (b_Diagrams_both G)
def N_Diagrams_either : List Str := ["self", "f", "g"]
theorem s_Diagrams_either : FnScope N_Diagrams_either ["self", "f", "g"] (defScope (inClass (T 9) 12)) := ⟨rfl, rfl, rfl, by decide +kernel, rfl, by decide +kernel, by decide +kernel⟩
set_option maxHeartbeats 0 in
theorem b_Diagrams_either (G : Glb w K mg) : Body P w K mg base (xr K) 23 N_Diagrams_either "Diagrams.either" (defScope (inClass (T 9) 12)) (defBody (inClass (T 9) 12)) m_Diagrams_either := by
  intro f cd A outer s H E W X tk F hr
  have nd : X.N.Nodup := s_Diagrams_either.nd
  exact ⟨_, (ss_one (ss_retM (sm_meth 0 (c_Diagrams_choose G) hr F.le (sam_cons (sm_h (se_var 1)) (sam_cons (sm_h (se_gi G.g_ONE)) (sam_cons (sm_h (se_var 2)) sam_nil))))))⟩
theorem c_Diagrams_either (G : Glb w K mg) : MetM P w K mg base (xr K) "Diagrams" "either" 24 2 f_Diagrams_either := by
  obtain ⟨fd, F⟩ := G.D_Diagrams_either
  exact metM_of F G.mt_Diagrams_either G.cl_Diagrams s_Diagrams_either (fun _ _ _ _ _ _ us hl => match us, hl with | [_, _, _], _ => rfl) rfl rfl (b_Diagrams_either G)
def N__law_apply : List Str := ["_law_table", "_law_call", "_law_numbers", "_law_rows", "_law_size", "_law_k"]
theorem s__law_apply : FnScope N__law_apply ["_law_table", "_law_call", "_law_numbers", "_law_rows"] (defScope (T 15)) := ⟨rfl, rfl, rfl, by decide +kernel, rfl, by decide +kernel, by decide +kernel⟩
set_option maxHeartbeats 0 in
theorem b__law_apply (G : Glb w K mg) : Body P w K mg base (xr K) 25 N__law_apply "_law_apply" (defScope (T 15)) (defBody (T 15)) m__law_apply := by
  intro f cd A outer s H E W X tk F hr
  have nd : X.N.Nodup := s__law_apply.nd
  exact ⟨_, (ss_cons (ss_set 4 (se_len G.u_len (sa_cons (se_ix F (se_var 3) se_int) sa_nil)))
    (ss_cons (ss_if (sb_cmp (c_eq F) (se_var 1) se_int) (ss_one (ss_retW (sm_tup (sam_cons (sm_meth 0 (c_Diagrams_choose G) (hr.mono (by decide)) F.le (sam_cons (sm_h (se_ix F (se_var 2) se_int)) (sam_cons (sm_h (se_ix F (se_var 2) se_int)) (sam_cons (sm_h (se_ix F (se_var 2) se_int)) sam_nil)))) (sam_cons (sm_h (SF.comp (sf_comp (own := [("_law_k", 5)]) (te := (tOp (rIxV K) (tOp (rIxV K) (tVar 3) (tOp (rAddV K) (tC (.int 1)) (tCB rIntC (tCons (tOp (rEqV K) (tOp (rIxV K) (tOp (rIxV K) (tVar 3) (tC (.int 0))) (tVar 5)) (tC (.int 0))) tNil)))) (tVar 5))) (tt := tYes) (g := (gName 5)) F (si_rng1 G.u_range (se_var 4)) (fun s H Cc cl fp => (sg_name 5)) (fun s H Cc cl fp => st_nil) (fun s H Cc cl fp => (se_ix (F.blk _ _ _ _ _) (se_ix (F.blk _ _ _ _ _) (se_var 3) (se_add se_int (se_intOf G.u_int (sa_cons (se_cmp (c_eq (F.blk _ _ _ _ _)) (se_ix (F.blk _ _ _ _ _) (se_ix (F.blk _ _ _ _ _) (se_var 3) se_int) (se_var 5)) se_int) sa_nil)))) (se_var 5)))))) sam_nil))))) ss_nil)
    (ss_cons (ss_if (sb_cmp (c_eq F) (se_var 1) se_int) (ss_one (ss_retW (sm_tup (sam_cons (sm_meth 0 (c_Diagrams_negate G) (hr.mono (by decide)) F.le (sam_cons (sm_h (se_ix F (se_var 2) se_int)) sam_nil)) (sam_cons (sm_h (SF.comp (sf_comp (own := [("_law_k", 5)]) (te := (tOp (rI0 fun i j => .int (i - j)) (tC (.int 1)) (tOp (rIxV K) (tOp (rIxV K) (tVar 3) (tC (.int 0))) (tVar 5)))) (tt := tYes) (g := (gName 5)) F (si_rng1 G.u_range (se_var 4)) (fun s H Cc cl fp => (sg_name 5)) (fun s H Cc cl fp => st_nil) (fun s H Cc cl fp => (se_sub se_int (se_ix (F.blk _ _ _ _ _) (se_ix (F.blk _ _ _ _ _) (se_var 3) se_int) (se_var 5))))))) sam_nil))))) ss_nil)
    (ss_cons (ss_if (sb_cmp (c_eq F) (se_var 1) se_int) (ss_one (ss_retW (sm_tup (sam_cons (sm_meth 0 (c_Diagrams_both G) (hr.mono (by decide)) F.le (sam_cons (sm_h (se_ix F (se_var 2) se_int)) (sam_cons (sm_h (se_ix F (se_var 2) se_int)) sam_nil))) (sam_cons (sm_h (SF.comp (sf_comp (own := [("_law_k", 5)]) (te := (tOp rMulV (tOp (rIxV K) (tOp (rIxV K) (tVar 3) (tC (.int 0))) (tVar 5)) (tOp (rIxV K) (tOp (rIxV K) (tVar 3) (tC (.int 1))) (tVar 5)))) (tt := tYes) (g := (gName 5)) F (si_rng1 G.u_range (se_var 4)) (fun s H Cc cl fp => (sg_name 5)) (fun s H Cc cl fp => st_nil) (fun s H Cc cl fp => (se_mul (se_ix (F.blk _ _ _ _ _) (se_ix (F.blk _ _ _ _ _) (se_var 3) se_int) (se_var 5)) (se_ix (F.blk _ _ _ _ _) (se_ix (F.blk _ _ _ _ _) (se_var 3) se_int) (se_var 5))))))) sam_nil))))) ss_nil)
    (ss_cons (ss_if (sb_cmp (c_eq F) (se_var 1) se_int) (ss_one (ss_retW (sm_tup (sam_cons (sm_meth 0 (c_Diagrams_either G) (hr.mono (by decide)) F.le (sam_cons (sm_h (se_ix F (se_var 2) se_int)) (sam_cons (sm_h (se_ix F (se_var 2) se_int)) sam_nil))) (sam_cons (sm_h (SF.comp (sf_comp (own := [("_law_k", 5)]) (te := (tCB (rMaxC K) (tCons (tOp (rIxV K) (tOp (rIxV K) (tVar 3) (tC (.int 0))) (tVar 5)) (tCons (tOp (rIxV K) (tOp (rIxV K) (tVar 3) (tC (.int 1))) (tVar 5)) tNil)))) (tt := tYes) (g := (gName 5)) F (si_rng1 G.u_range (se_var 4)) (fun s H Cc cl fp => (sg_name 5)) (fun s H Cc cl fp => st_nil) (fun s H Cc cl fp => (se_max (F.blk _ _ _ _ _) G.u_max (sa_cons (se_ix (F.blk _ _ _ _ _) (se_ix (F.blk _ _ _ _ _) (se_var 3) se_int) (se_var 5)) (sa_cons (se_ix (F.blk _ _ _ _ _) (se_ix (F.blk _ _ _ _ _) (se_var 3) se_int) (se_var 5)) sa_nil))))))) sam_nil))))) ss_nil)
    (ss_one (ss_retW (sm_tup (sam_cons (sm_meth 0 (c_Diagrams_differ G) hr F.le (sam_cons (sm_h (se_ix F (se_var 2) se_int)) (sam_cons (sm_h (se_ix F (se_var 2) se_int)) sam_nil))) (sam_cons (sm_h (SF.comp (sf_comp (own := [("_law_k", 5)]) (te := (tCB rIntC (tCons (tOp (rNeV K) (tOp (rIxV K) (tOp (rIxV K) (tVar 3) (tC (.int 0))) (tVar 5)) (tOp (rIxV K) (tOp (rIxV K) (tVar 3) (tC (.int 1))) (tVar 5))) tNil))) (tt := tYes) (g := (gName 5)) F (si_rng1 G.u_range (se_var 4)) (fun s H Cc cl fp => (sg_name 5)) (fun s H Cc cl fp => st_nil) (fun s H Cc cl fp => (se_intOf G.u_int (sa_cons (se_cmp (c_ne (F.blk _ _ _ _ _)) (se_ix (F.blk _ _ _ _ _) (se_ix (F.blk _ _ _ _ _) (se_var 3) se_int) (se_var 5)) (se_ix (F.blk _ _ _ _ _) (se_ix (F.blk _ _ _ _ _) (se_var 3) se_int) (se_var 5))) sa_nil)))))) sam_nil))))))))))⟩
theorem c__law_apply (G : Glb w K mg) : CalM P w K mg base (xr K) "_law_apply" 26 3 f__law_apply := by
  obtain ⟨fd, F⟩ := G.D__law_apply
  exact calM_of F G.a__law_apply s__law_apply (fun _ _ _ _ _ _ us hl => match us, hl with | [_, _, _, _], _ => rfl) rfl rfl (b__law_apply G)
def N__law_cell : List Str := ["_law_script", "_law_k"]
theorem s__law_cell : FnScope N__law_cell ["_law_script", "_law_k"] (defScope (T 11)) := ⟨rfl, rfl, rfl, by decide +kernel, rfl, by decide +kernel, by decide +kernel⟩
set_option maxHeartbeats 0 in
theorem b__law_cell (G : Glb w K mg) : Body P w K mg base (xr K) 0 N__law_cell "_law_cell" (defScope (T 11)) (defBody (T 11)) m__law_cell := by
  intro f cd A outer s H E W X tk F hr
  have nd : X.N.Nodup := s__law_cell.nd
  exact ⟨_, (ss_cons (ss_if (sb_cmp c_lt (se_var 1) (se_len G.u_len (sa_cons (se_var 0) sa_nil))) (ss_one (ss_ret (se_ix F (se_var 0) (se_var 1)))) ss_nil)
    (ss_one (ss_ret se_int)))⟩
theorem c__law_cell (G : Glb w K mg) : Cal P w K mg base (xr K) "_law_cell" 1 2 f__law_cell := by
  obtain ⟨fd, F⟩ := G.D__law_cell
  exact cal_of F G.a__law_cell s__law_cell (fun _ _ _ _ _ _ us hl => match us, hl with | [_, _], _ => rfl) rfl rfl (b__law_cell G)
def N_Diagrams_variable : List Str := ["self", "i"]
theorem s_Diagrams_variable : FnScope N_Diagrams_variable ["self", "i"] (defScope (inClass (T 9) 8)) := ⟨rfl, rfl, rfl, by decide +kernel, rfl, by decide +kernel, by decide +kernel⟩
set_option maxHeartbeats 0 in
theorem b_Diagrams_variable (G : Glb w K mg) : Body P w K mg base (xr K) 1 N_Diagrams_variable "Diagrams.variable" (defScope (inClass (T 9) 8)) (defBody (inClass (T 9) 8)) m_Diagrams_variable := by
  intro f cd A outer s H E W X tk F hr
  have nd : X.N.Nodup := s_Diagrams_variable.nd
  exact ⟨_, (ss_cons (ss_if (sb_not (sb_chain c_le c_lt se_int (se_var 1) (se_fld G.cl_Diagrams G.no_Diagrams__count (se_var 0)))) (ss_one (ss_raise tk F.ca G.x_NoSuchThing)) ss_nil)
    (ss_one (ss_retM (sm_meth 0 (c_Diagrams__found G) hr F.le (sam_cons (sm_h (se_var 1)) (sam_cons (sm_h (se_gi G.g_ZERO)) (sam_cons (sm_h (se_gi G.g_ONE)) sam_nil)))))))⟩
theorem c_Diagrams_variable (G : Glb w K mg) : MetM P w K mg base (xr K) "Diagrams" "variable" 2 1 f_Diagrams_variable := by
  obtain ⟨fd, F⟩ := G.D_Diagrams_variable
  exact metM_of F G.mt_Diagrams_variable G.cl_Diagrams s_Diagrams_variable (fun _ _ _ _ _ _ us hl => match us, hl with | [_, _], _ => rfl) rfl rfl (b_Diagrams_variable G)
def N__law_bits : List Str := ["_law_number", "_law_count", "_law_bits_here", "_law_k"]
theorem s__law_bits : FnScope N__law_bits ["_law_number", "_law_count"] (defScope (T 14)) := ⟨rfl, rfl, rfl, by decide +kernel, rfl, by decide +kernel, by decide +kernel⟩
set_option maxHeartbeats 0 in
theorem b__law_bits (G : Glb w K mg) : Body P w K mg base (xr K) 0 N__law_bits "_law_bits" (defScope (T 14)) (defBody (T 14)) m__law_bits := by
  intro f cd A outer s H E W X tk F hr
  have nd : X.N.Nodup := s__law_bits.nd
  exact ⟨_, (ss_cons (ss_own 2 (sf_lst sa_nil))
    (ss_cons (ss_for F (si_rng1 G.u_range (se_var 1)) (sg_name 3) (ss_cons (ss_app 2 (se_mod (se_intOf G.u_int (sa_cons (se_var 0) sa_nil)) se_int))
    (ss_one (ss_set 0 (se_div (se_var 0) se_int)))))
    (ss_freeze 2 (ss_one (ss_ret (se_var 2))))))⟩
theorem c__law_bits (G : Glb w K mg) : Cal P w K mg base (xr K) "_law_bits" 1 2 f__law_bits := by
  obtain ⟨fd, F⟩ := G.D__law_bits
  exact cal_of F G.a__law_bits s__law_bits (fun _ _ _ _ _ _ us hl => match us, hl with | [_, _], _ => rfl) rfl rfl (b__law_bits G)
def N__law_functions : List Str := ["_law_script", "_law_count", "_law_table", "_law_size", "_law_numbers", "_law_rows", "_law_i", "_law_k", "_law_parts_here", "_law_used", "_law_call", "_law_number", "_law_row", "_law_part", "_law_at"]
theorem s__law_functions : FnScope N__law_functions ["_law_script"] (defScope (T 16)) := ⟨rfl, rfl, rfl, by decide +kernel, rfl, by decide +kernel, by decide +kernel⟩
set_option maxHeartbeats 0 in
theorem b__law_functions (G : Glb w K mg) : BodyU P w K mg base (xr K) 26 N__law_functions "_law_functions" (defScope (T 16)) (defBody (T 16)) m__law_functions 2 (aCons (eVar 1) (aCons (eVar 4) (aCons (eVar 5) aNil))) := by
  intro f cd A outer s H E W X tk F hr
  have nd : X.N.Nodup := s__law_functions.nd
  exact ⟨_, (sU_cons (ss_set 1 (se_ix F (se_call (c__law_parts G) (hr.mono (by decide)) F.le (sa_cons (se_call (c__law_cell G) (hr.mono (by decide)) F.le (sa_cons (se_var 0) (sa_cons se_int sa_nil))) (sa_cons (se_lst (sa_cons se_int sa_nil)) sa_nil))) se_int))
    (sU_cons (ss_ownT 2 (str_make (c_Diagrams___init__ G) (hr.mono (by decide)) F.le (sa_cons (se_var 1) sa_nil)))
    (sU_cons (ss_set 3 (se_ix F (se_lst (sa_cons se_int (sa_cons se_int (sa_cons se_int (sa_cons se_int (sa_cons se_int (sa_cons se_int sa_nil))))))) (se_var 1)))
    (sU_cons (ss_own 4 (sf_lst (sa_cons se_int (sa_cons se_int sa_nil))))
    (sU_cons (ss_own 5 (sf_lst (sa_cons (SF.comp (sf_comp (own := [("_law_k", 7)]) (te := (tC (.int 0))) (tt := tYes) (g := (gName 7)) F (si_rng1 G.u_range (se_var 3)) (fun s H Cc cl fp => (sg_name 7)) (fun s H Cc cl fp => st_nil) (fun s H Cc cl fp => se_int))) (sa_cons (SF.comp (sf_comp (own := [("_law_k", 7)]) (te := (tC (.int 1))) (tt := tYes) (g := (gName 7)) F (si_rng1 G.u_range (se_var 3)) (fun s H Cc cl fp => (sg_name 7)) (fun s H Cc cl fp => st_nil) (fun s H Cc cl fp => se_int))) sa_nil))))
    (sU_cons (ss_for F (si_rng1 G.u_range (se_var 1)) (sg_name 6) (ss_cons (ss_appendM 4 (sm_meth 2 (c_Diagrams_variable G) (hr.mono (by decide)) F.le (sam_cons (sm_h (se_var 6)) sam_nil)))
    (ss_one (ss_app 5 (SF.comp (sf_comp (own := [("_law_k", 7)]) (te := (tOp (rIxV K) (tCallS (spF K (xr K) 2 f__law_bits) (CE (C0 ⟨xr K, some W⟩)) (tCons (tVar 7) (tCons (tVar 1) tNil))) (tVar 6))) (tt := tYes) (g := (gName 7)) F (si_rng1 G.u_range (se_var 3)) (fun s H Cc cl fp => (sg_name 7)) (fun s H Cc cl fp => st_nil) (fun s H Cc cl fp => (se_ix (F.blk _ _ _ _ _) (se_call (c__law_bits G) (hr.mono (by decide)) (F.blk _ _ _ _ _).le (sa_cons (se_var 7) (sa_cons (se_var 1) sa_nil))) (se_var 6)))))))))
    (sU_cons (ss_for F (si_rng1 G.u_range (se_min F G.u_min (sa_cons se_int (sa_cons (se_max F G.u_max (sa_cons se_int (sa_cons (se_sub (se_len G.u_len (sa_cons (se_var 0) sa_nil)) se_int) sa_nil))) sa_nil)))) (sg_name 7) (ss_cons (ss_set 8 (se_call (c__law_parts G) (hr.mono (by decide)) F.le (sa_cons (se_add (se_call (c__law_cell G) (hr.mono (by decide)) F.le (sa_cons (se_var 0) (sa_cons (se_add se_int (se_var 7)) sa_nil))) (se_mul se_int (se_var 7))) (sa_cons (se_lst (sa_cons se_int (sa_cons se_int (sa_cons se_int (sa_cons se_int sa_nil))))) sa_nil))))
    (ss_cons (ss_ownLcN 9 (sfc_comp (own := [("_law_part", 13)]) (te := (tOp rModV (tCB rIntC (tCons (tVar 13) tNil)) (tCB (rLenC K) (tCons (tVar 4) tNil)))) (tt := tYes) (g := (gName 13)) F (si_seq (se_cut (se_var 8) (so_some se_int) so_none)) (fun s H Cc cl fp => (sg_name 13)) (fun s H Cc cl fp => st_nil) (fun s H Cc cl fp => (se_mod (se_intOf G.u_int (sa_cons (se_var 13) sa_nil)) (se_len G.u_len (sa_cons (se_var 4) sa_nil))))))
    (ss_freeze 9 (ss_cons (ss_set 10 (se_ix F (se_lst (sa_cons se_int (sa_cons se_int (sa_cons se_int (sa_cons se_int (sa_cons se_int (sa_cons se_int (sa_cons se_int (sa_cons se_int sa_nil))))))))) (se_ix F (se_var 8) se_int)))
    (ss_cons (ss_putM (sg_tup F (sgs_cons (sg_name 11) (sgs_cons (sg_name 12) sgs_nil))) nx_pTup (sm_call 2 (c__law_apply G) hr F.le (sam_cons (sm_h (se_var 10)) (sam_cons (sm_lc (smc_comp (own := [("_law_at", 14)]) (te := (tOp (rIxV K) (tVar 4) (tVar 14))) (tt := tYes) (g := (gName 14)) F (sim_h (si_seq (se_var 9))) (fun s H Cc cl fp => (sg_name 14)) (fun s H Cc cl fp => stm_nil) (fun s H Cc cl fp => (sm_ixO 4 (F.blk _ _ _ _ _) (sm_h (se_var 14)))))) (sam_cons (sm_lc (smc_comp (own := [("_law_at", 14)]) (te := (tOp (rIxV K) (tVar 5) (tVar 14))) (tt := tYes) (g := (gName 14)) F (sim_h (si_seq (se_var 9))) (fun s H Cc cl fp => (sg_name 14)) (fun s H Cc cl fp => stm_nil) (fun s H Cc cl fp => (sm_ixO 5 (F.blk _ _ _ _ _) (sm_h (se_var 14)))))) sam_nil)))))
    (ss_cons (ss_app 4 (se_var 11))
    (ss_one (ss_app 5 (se_var 12))))))))))
    (sU_freeze 4 (sU_freeze 5 (sU_ret 2 (sa_cons (se_var 1) (sa_cons (se_var 4) (sa_cons (se_var 5) sa_nil)))))))))))))⟩
theorem cu__law_functions (G : Glb w K mg) : CalU P w K mg base (xr K) "_law_functions" 27 1 f__law_functions := by
  obtain ⟨fd, F⟩ := G.D__law_functions
  exact calU_of F G.a__law_functions s__law_functions (fun _ _ _ _ _ _ us hl => match us, hl with | [_], _ => rfl) rfl rfl (b__law_functions G)
def N_check_bits : List Str := ["bits", "count", "bit"]
theorem s_check_bits : FnScope N_check_bits ["bits", "count"] (defScope (T 5)) := ⟨rfl, rfl, rfl, by decide +kernel, rfl, by decide +kernel, by decide +kernel⟩
set_option maxHeartbeats 0 in
theorem b_check_bits (G : Glb w K mg) : Body P w K mg base (xr K) 0 N_check_bits "check_bits" (defScope (T 5)) (defBody (T 5)) m_check_bits := by
  intro f cd A outer s H E W X tk F hr
  have nd : X.N.Nodup := s_check_bits.nd
  exact ⟨_, (ss_cons (ss_if (sb_cmp (c_ne F) (se_len G.u_len (sa_cons (se_var 0) sa_nil)) (se_var 1)) (ss_one (ss_raise tk F.ca G.x_InvalidValues)) ss_nil)
    (ss_one (ss_for F (si_seq (se_var 0)) (sg_name 2) (ss_one (ss_if (sb_w (sw_and (sb_cmp (c_ne F) (se_var 2) se_int) (sw_and1 (sb_cmp (c_ne F) (se_var 2) se_int)))) (ss_one (ss_raise tk F.ca G.x_InvalidValues)) ss_nil)))))⟩
theorem c_check_bits (G : Glb w K mg) : Cal P w K mg base (xr K) "check_bits" 1 2 f_check_bits := by
  obtain ⟨fd, F⟩ := G.D_check_bits
  exact cal_of F G.a_check_bits s_check_bits (fun _ _ _ _ _ _ us hl => match us, hl with | [_, _], _ => rfl) rfl rfl (b_check_bits G)
def N_Diagrams_value : List Str := ["self", "f", "bits", "variable", "low", "high"]
theorem s_Diagrams_value : FnScope N_Diagrams_value ["self", "f", "bits"] (defScope (inClass (T 9) 14)) := ⟨rfl, rfl, rfl, by decide +kernel, rfl, by decide +kernel, by decide +kernel⟩
set_option maxHeartbeats 0 in
theorem b_Diagrams_value (G : Glb w K mg) : Body P w K mg base (xr K) 1 N_Diagrams_value "Diagrams.value" (defScope (inClass (T 9) 14)) (defBody (inClass (T 9) 14)) m_Diagrams_value := by
  intro f cd A outer s H E W X tk F hr
  have nd : X.N.Nodup := s_Diagrams_value.nd
  exact ⟨_, (ss_cons (ss_expr (se_meth (c_Diagrams__check G) hr F.le (se_var 0) (sa_cons (se_lst (sa_cons (se_var 1) sa_nil)) sa_nil)))
    (ss_cons (ss_expr (se_call (c_check_bits G) hr F.le (sa_cons (se_var 2) (sa_cons (se_fld G.cl_Diagrams G.no_Diagrams__count (se_var 0)) sa_nil))))
    (ss_cons (ss_while 100000 F (sb_cmp c_gt (se_var 1) (se_gi G.g_ONE)) (ss_cons (ss_put (sg_tup F (sgs_cons (sg_name 3) (sgs_cons (sg_name 4) (sgs_cons (sg_name 5) sgs_nil)))) nx_pTup (se_ix F (se_fld G.cl_Diagrams G.no_Diagrams__nodes (se_var 0)) (se_var 1)))
    (ss_one (ss_set 1 (se_if (sb_cmp (c_eq F) (se_ix F (se_var 2) (se_var 3)) se_int) (se_var 5) (se_var 4))))))
    (ss_one (ss_ret (se_var 1))))))⟩
theorem c_Diagrams_value (G : Glb w K mg) : MetF P w K mg base (xr K) "Diagrams" "value" 2 2 f_Diagrams_value := by
  obtain ⟨fd, F⟩ := G.D_Diagrams_value
  exact metF_of F G.mt_Diagrams_value G.cl_Diagrams s_Diagrams_value (fun _ _ _ _ _ _ us hl => match us, hl with | [_, _, _], _ => rfl) rfl rfl (b_Diagrams_value G)
def N__law_refusal : List Str := ["_law_table", "_law_number", "_law_bits_here"]
theorem s__law_refusal : FnScope N__law_refusal ["_law_table", "_law_number", "_law_bits_here"] (defScope (T 17)) := ⟨rfl, rfl, rfl, by decide +kernel, rfl, by decide +kernel, by decide +kernel⟩
set_option maxHeartbeats 0 in
theorem b__law_refusal (G : Glb w K mg) : Body P w K mg base (xr K) 2 N__law_refusal "_law_refusal" (defScope (T 17)) (defBody (T 17)) m__law_refusal := by
  intro f cd A outer s H E W X tk F hr
  have nd : X.N.Nodup := s__law_refusal.nd
  exact ⟨_, (ss_cons (ss_try2 F tk hr G.x_NoSuchThing G.x_InvalidValues G.t_NoSuchThing G.t_InvalidValues (fun W pn xe tk F hr => (ss_one (ss_expr (se_meth (c_Diagrams_value G) hr F.le (se_var 0) (sa_cons (se_var 1) (sa_cons (se_var 2) sa_nil)))))) (fun a pn => (ss_one (ss_ret se_str))) (fun a pn => (ss_one (ss_ret se_str))))
    (ss_one (ss_ret se_str)))⟩
theorem c__law_refusal (G : Glb w K mg) : Cal P w K mg base (xr K) "_law_refusal" 3 3 f__law_refusal := by
  obtain ⟨fd, F⟩ := G.D__law_refusal
  exact cal_of F G.a__law_refusal s__law_refusal (fun _ _ _ _ _ _ us hl => match us, hl with | [_, _, _], _ => rfl) rfl rfl (b__law_refusal G)
def N_Diagrams_size : List Str := ["self"]
theorem s_Diagrams_size : FnScope N_Diagrams_size ["self"] (defScope (inClass (T 9) 6)) := ⟨rfl, rfl, rfl, by decide +kernel, rfl, by decide +kernel, by decide +kernel⟩
set_option maxHeartbeats 0 in
theorem b_Diagrams_size (G : Glb w K mg) : Body P w K mg base (xr K) 0 N_Diagrams_size "Diagrams.size" (defScope (inClass (T 9) 6)) (defBody (inClass (T 9) 6)) m_Diagrams_size := by
  intro f cd A outer s H E W X tk F hr
  have nd : X.N.Nodup := s_Diagrams_size.nd
  exact ⟨_, (ss_one (ss_ret (se_len G.u_len (sa_cons (se_fld G.cl_Diagrams G.no_Diagrams__nodes (se_var 0)) sa_nil))))⟩
theorem c_Diagrams_size (G : Glb w K mg) : MetF P w K mg base (xr K) "Diagrams" "size" 1 0 f_Diagrams_size := by
  obtain ⟨fd, F⟩ := G.D_Diagrams_size
  exact metF_of F G.mt_Diagrams_size G.cl_Diagrams s_Diagrams_size (fun _ _ _ _ _ _ us hl => match us, hl with | [_], _ => rfl) rfl rfl (b_Diagrams_size G)
theorem cq_Diagrams_size (G : Glb w K mg) : MetQ P w K mg base (xr K) "Diagrams" "size" 1 0 f_Diagrams_size := by
  obtain ⟨fd, F⟩ := G.D_Diagrams_size
  exact metQ_of F G.mt_Diagrams_size G.cl_Diagrams s_Diagrams_size (fun _ _ _ _ _ _ us hl => match us, hl with | [_], _ => rfl) rfl rfl (fun xs z => nxq_len_fld xs z) (by
    intro f cd A outer s H E X
    exact ⟨_, (ss_one (ss_ret (se_len G.u_len (sa_cons (se_fld G.cl_Diagrams G.no_Diagrams__nodes (se_var 0)) sa_nil))))⟩)
def N_Diagrams_first_case : List Str := ["self", "f", "case", "variable", "low", "high"]
theorem s_Diagrams_first_case : FnScope N_Diagrams_first_case ["self", "f"] (defScope (inClass (T 9) 15)) := ⟨rfl, rfl, rfl, by decide +kernel, rfl, by decide +kernel, by decide +kernel⟩
set_option maxHeartbeats 0 in
theorem b_Diagrams_first_case (G : Glb w K mg) : Body P w K mg base (xr K) 1 N_Diagrams_first_case "Diagrams.first_case" (defScope (inClass (T 9) 15)) (defBody (inClass (T 9) 15)) m_Diagrams_first_case := by
  intro f cd A outer s H E W X tk F hr
  have nd : X.N.Nodup := s_Diagrams_first_case.nd
  exact ⟨_, (ss_cons (ss_expr (se_meth (c_Diagrams__check G) hr F.le (se_var 0) (sa_cons (se_lst (sa_cons (se_var 1) sa_nil)) sa_nil)))
    (ss_cons (ss_if (sb_cmp (c_eq F) (se_var 1) (se_gi G.g_ZERO)) (ss_one (ss_ret se_non)) ss_nil)
    (ss_cons (ss_set 2 se_int)
    (ss_cons (ss_while 100000 F (sb_cmp c_gt (se_var 1) (se_gi G.g_ONE)) (ss_cons (ss_put (sg_tup F (sgs_cons (sg_name 3) (sgs_cons (sg_name 4) (sgs_cons (sg_name 5) sgs_nil)))) nx_pTup (se_ix F (se_fld G.cl_Diagrams G.no_Diagrams__nodes (se_var 0)) (se_var 1)))
    (ss_one (ss_if (sb_cmp (c_eq F) (se_var 4) (se_gi G.g_ZERO)) (ss_cons (ss_augAdd 2 (se_shl se_int (se_var 3)))
    (ss_one (ss_set 1 (se_var 5)))) (ss_one (ss_set 1 (se_var 4)))))))
    (ss_one (ss_ret (se_var 2)))))))⟩
theorem c_Diagrams_first_case (G : Glb w K mg) : MetF P w K mg base (xr K) "Diagrams" "first_case" 2 1 f_Diagrams_first_case := by
  obtain ⟨fd, F⟩ := G.D_Diagrams_first_case
  exact metF_of F G.mt_Diagrams_first_case G.cl_Diagrams s_Diagrams_first_case (fun _ _ _ _ _ _ us hl => match us, hl with | [_, _], _ => rfl) rfl rfl (b_Diagrams_first_case G)
def N__law_called : List Str := ["_law_table", "_law_call", "_law_numbers"]
theorem s__law_called : FnScope N__law_called ["_law_table", "_law_call", "_law_numbers"] (defScope (T 18)) := ⟨rfl, rfl, rfl, by decide +kernel, rfl, by decide +kernel, by decide +kernel⟩
set_option maxHeartbeats 0 in
theorem b__law_called (G : Glb w K mg) : Body P w K mg base (xr K) 25 N__law_called "_law_called" (defScope (T 18)) (defBody (T 18)) m__law_called := by
  intro f cd A outer s H E W X tk F hr
  have nd : X.N.Nodup := s__law_called.nd
  exact ⟨_, (ss_cons (ss_if (sb_cmp (c_eq F) (se_var 1) se_int) (ss_one (ss_retM (sm_meth 0 (c_Diagrams_choose G) (hr.mono (by decide)) F.le (sam_cons (sm_h (se_ix F (se_var 2) se_int)) (sam_cons (sm_h (se_ix F (se_var 2) se_int)) (sam_cons (sm_h (se_ix F (se_var 2) se_int)) sam_nil)))))) ss_nil)
    (ss_cons (ss_if (sb_cmp (c_eq F) (se_var 1) se_int) (ss_one (ss_retM (sm_meth 0 (c_Diagrams_negate G) (hr.mono (by decide)) F.le (sam_cons (sm_h (se_ix F (se_var 2) se_int)) sam_nil)))) ss_nil)
    (ss_cons (ss_if (sb_cmp (c_eq F) (se_var 1) se_int) (ss_one (ss_retM (sm_meth 0 (c_Diagrams_both G) (hr.mono (by decide)) F.le (sam_cons (sm_h (se_ix F (se_var 2) se_int)) (sam_cons (sm_h (se_ix F (se_var 2) se_int)) sam_nil))))) ss_nil)
    (ss_cons (ss_if (sb_cmp (c_eq F) (se_var 1) se_int) (ss_one (ss_retM (sm_meth 0 (c_Diagrams_either G) (hr.mono (by decide)) F.le (sam_cons (sm_h (se_ix F (se_var 2) se_int)) (sam_cons (sm_h (se_ix F (se_var 2) se_int)) sam_nil))))) ss_nil)
    (ss_cons (ss_if (sb_cmp (c_eq F) (se_var 1) se_int) (ss_one (ss_retM (sm_meth 0 (c_Diagrams_differ G) hr F.le (sam_cons (sm_h (se_ix F (se_var 2) se_int)) (sam_cons (sm_h (se_ix F (se_var 2) se_int)) sam_nil))))) ss_nil)
    (ss_one (ss_ret (se_meth (c_Diagrams_first_case G) (hr.mono (by decide)) F.le (se_var 0) (sa_cons (se_ix F (se_var 2) se_int) sa_nil)))))))))⟩
theorem c__law_called (G : Glb w K mg) : CalM P w K mg base (xr K) "_law_called" 26 2 f__law_called := by
  obtain ⟨fd, F⟩ := G.D__law_called
  exact calM_of F G.a__law_called s__law_called (fun _ _ _ _ _ _ us hl => match us, hl with | [_, _, _], _ => rfl) rfl rfl (b__law_called G)
def N__law_refuses : List Str := ["_law_table", "_law_call", "_law_numbers", "_law_size"]
theorem s__law_refuses : FnScope N__law_refuses ["_law_table", "_law_call", "_law_numbers"] (defScope (T 19)) := ⟨rfl, rfl, rfl, by decide +kernel, rfl, by decide +kernel, by decide +kernel⟩
set_option maxHeartbeats 0 in
theorem b__law_refuses (G : Glb w K mg) : Body P w K mg base (xr K) 26 N__law_refuses "_law_refuses" (defScope (T 19)) (defBody (T 19)) m__law_refuses := by
  intro f cd A outer s H E W X tk F hr
  have nd : X.N.Nodup := s__law_refuses.nd
  exact ⟨_, (ss_cons (ss_setN 3 (se_meth0 (c_Diagrams_size G) (hr.mono (by decide)) F.le (se_var 0)))
    (ss_cons (ss_try F tk hr G.x_NoSuchThing G.t_NoSuchThing (fun W pn xe tk F hr => (ss_one (ss_dropM (sm_call 0 (c__law_called G) hr F.le (sam_cons (sm_h (se_var 1)) (sam_cons (sm_h (se_var 2)) sam_nil)))))) (fun a pn => (ss_one (ss_ret (se_cmp (c_eqS F.su) (se_methQ0 (cq_Diagrams_size G) (hr.mono (show 1 ≤ 26 by decide)) F.su.le (se_var 0)) (se_var 3))))))
    (ss_one (ss_ret se_bl))))⟩
theorem c__law_refuses (G : Glb w K mg) : CalM P w K mg base (xr K) "_law_refuses" 27 2 f__law_refuses := by
  obtain ⟨fd, F⟩ := G.D__law_refuses
  exact calM_of F G.a__law_refuses s__law_refuses (fun _ _ _ _ _ _ us hl => match us, hl with | [_, _, _], _ => rfl) rfl rfl (b__law_refuses G)
def N__law_is_integer : List Str := ["_law_actual"]
theorem s__law_is_integer : FnScope N__law_is_integer ["_law_actual"] (defScope (T 13)) := ⟨rfl, rfl, rfl, by decide +kernel, rfl, by decide +kernel, by decide +kernel⟩
set_option maxHeartbeats 0 in
theorem b__law_is_integer (G : Glb w K mg) : Body P w K mg base (xr K) 0 N__law_is_integer "_law_is_integer" (defScope (T 13)) (defBody (T 13)) m__law_is_integer := by
  intro f cd A outer s H E W X tk F hr
  have nd : X.N.Nodup := s__law_is_integer.nd
  exact ⟨_, (ss_one (ss_ret (se_and (se_isi (u := .int) G.u_isinstance G.u_int bi_int (se_var 0)) (se_one (se_not (se_isi (u := .bool) G.u_isinstance G.u_bool bi_bool (se_var 0)))))))⟩
theorem c__law_is_integer (G : Glb w K mg) : Cal P w K mg base (xr K) "_law_is_integer" 1 1 f__law_is_integer := by
  obtain ⟨fd, F⟩ := G.D__law_is_integer
  exact cal_of F G.a__law_is_integer s__law_is_integer (fun _ _ _ _ _ _ us hl => match us, hl with | [_], _ => rfl) rfl rfl (b__law_is_integer G)
def N_law : List Str := ["_law_script", "_law_at", "_law_parts_here", "_law_bits_here", "_law_bad", "_law_strange", "_law_good", "_law_least", "_law_table", "_law_count", "_law_numbers", "_law_rows", "_law_case", "_law_wrong", "_law_actual"]
theorem s_law : FnScope N_law ["_law_script"] (defScope (T 20)) := ⟨rfl, rfl, rfl, by decide +kernel, rfl, by decide +kernel, by decide +kernel⟩
set_option maxHeartbeats 0 in
theorem b_law (G : Glb w K mg) : Body P w K mg base (xr K) 27 N_law "law" (defScope (T 20)) (defBody (T 20)) m_law := by
  intro f cd A outer s H E W X tk F hr
  have nd : X.N.Nodup := s_law.nd
  exact ⟨_, (ss_cons (ss_putU 8 F (cu__law_functions G) hr F.le (sa_cons (se_var 0) sa_nil) (sgs_cons (sg_name 9) (sgs_cons (sg_name 10) (sgs_cons (sg_name 11) sgs_nil))))
    (ss_cons (ss_for F (si_rng1 G.u_range (se_len G.u_len (sa_cons (se_var 10) sa_nil))) (sg_name 1) (ss_one (ss_for F (si_rng1 G.u_range (se_len G.u_len (sa_cons (se_ix F (se_var 11) (se_var 1)) sa_nil))) (sg_name 12) (ss_cons (ss_setN 14 (se_meth (c_Diagrams_value G) (hr.mono (by decide)) F.le (se_var 8) (sa_cons (se_ix F (se_var 10) (se_var 1)) (sa_cons (se_call (c__law_bits G) (hr.mono (by decide)) F.le (sa_cons (se_var 12) (sa_cons (se_var 9) sa_nil))) sa_nil))))
    (ss_one (ss_if (sb_w (sw_or (sb_not (sb_tru (se_call (c__law_is_integer G) (hr.mono (by decide)) F.le (sa_cons (se_var 14) sa_nil)))) (sw_or1 (sb_cmp (c_ne F) (se_var 14) (se_ix F (se_ix F (se_var 11) (se_var 1)) (se_var 12)))))) (ss_one (ss_ret se_bl)) ss_nil))))))
    (ss_cons (ss_set 2 (se_call (c__law_parts G) (hr.mono (by decide)) F.le (sa_cons (se_call (c__law_cell G) (hr.mono (by decide)) F.le (sa_cons (se_var 0) (sa_cons se_int sa_nil))) (sa_cons (se_lst (sa_cons se_int (sa_cons se_int (sa_cons se_int (sa_cons (se_pow se_int se_int) (sa_cons se_int sa_nil)))))) sa_nil))))
    (ss_cons (ss_set 3 (se_call (c__law_bits G) (hr.mono (by decide)) F.le (sa_cons (se_ix F (se_var 2) se_int) (sa_cons (se_var 9) sa_nil))))
    (ss_cons (ss_set 4 (se_ix F (se_lst (sa_cons (se_add (se_var 3) (se_lst (sa_cons se_int sa_nil))) (sa_cons (se_cut (se_var 3) (so_some se_int) so_none) (sa_cons (se_add (se_cut (se_var 3) so_none (so_some (se_neg se_int))) (se_lst (sa_cons se_int sa_nil))) sa_nil)))) (se_ix F (se_var 2) se_int)))
    (ss_cons (ss_if (sb_cmp (c_eq F) (se_var 9) se_int) (ss_one (ss_set 4 (se_lst (sa_cons se_int sa_nil)))) ss_nil)
    (ss_cons (ss_setN 5 (se_ix F (se_lst (sa_cons (se_neg se_int) (sa_cons (se_meth0 (c_Diagrams_size G) (hr.mono (by decide)) F.le (se_var 8)) (sa_cons (se_add (se_add (se_meth0 (c_Diagrams_size G) (hr.mono (by decide)) F.le (se_var 8)) se_int) (se_ix F (se_var 2) se_int)) sa_nil)))) (se_ix F (se_var 2) se_int)))
    (ss_cons (ss_set 6 (se_ix F (se_var 10) (se_mod (se_intOf G.u_int (sa_cons (se_ix F (se_var 2) se_int) sa_nil)) (se_len G.u_len (sa_cons (se_var 10) sa_nil)))))
    (ss_cons (ss_if (sb_cmp (c_ne F) (se_call (c__law_refusal G) (hr.mono (by decide)) F.le (sa_cons (se_var 8) (sa_cons (se_var 6) (sa_cons (se_var 4) sa_nil)))) se_str) (ss_one (ss_ret se_bl)) ss_nil)
    (ss_cons (ss_if (sb_w (sw_or (sb_cmp (c_ne F) (se_call (c__law_refusal G) (hr.mono (by decide)) F.le (sa_cons (se_var 8) (sa_cons (se_var 5) (sa_cons (se_var 4) sa_nil)))) se_str) (sw_or1 (sb_cmp (c_ne F) (se_call (c__law_refusal G) (hr.mono (by decide)) F.le (sa_cons (se_var 8) (sa_cons (se_var 5) (sa_cons (se_var 3) sa_nil)))) se_str)))) (ss_one (ss_ret se_bl)) ss_nil)
    (ss_cons (ss_set 7 (se_ix F (se_lst (sa_cons se_int (sa_cons se_int (sa_cons se_int (sa_cons se_int (sa_cons se_int (sa_cons se_int sa_nil))))))) (se_ix F (se_var 2) se_int)))
    (ss_cons (ss_for F (si_rng1 G.u_range (se_var 7)) (sg_name 1) (ss_cons (ss_own 13 (sf_lst (sa_cons (se_var 6) (sa_cons (se_var 6) (sa_cons (se_var 6) sa_nil)))))
    (ss_cons (ss_item 13 (se_var 5) (se_var 1))
    (ss_freeze 13 (ss_one (ss_ifM (sbm_not (sbm_tru (sm_call 8 (c__law_refuses G) hr F.le (sam_cons (sm_h (se_ix F (se_var 2) se_int)) (sam_cons (sm_h (se_var 13)) sam_nil))))) (ss_one (ss_ret se_bl)) ss_nil))))))
    (ss_one (ss_ret se_bl))))))))))))))⟩
end
end K90
end Vm
namespace Vm
namespace K90
open PySem L2 PyProof.Rows
theorem ex_ok {K : PySem.W.Frag} (c : hEx K = true) (i : Nat) {f : PySem.W.Frag → Bool} (e : hEs[i]? = some f) : f K = true := List.all_eq_true.mp c f (List.mem_of_getElem? e)
theorem glb {w : World} {K : PySem.W.Frag} {h h' : Heap} {mg : Str → Option Value} (X : K.In h) (G0 : h.Ns mainGlobals mg) (c : He.SaysX hFa hFn hTs [] hEx w h' K) : Glb w K mg :=
  ⟨He.free_ok X G0 (c.t.d.fact 0 (f := .free "range") rfl),
   He.free_ok X G0 (c.t.d.fact 1 (f := .free "len") rfl),
   He.free_ok X G0 (c.t.d.fact 2 (f := .free "int") rfl),
   He.free_ok X G0 (c.t.d.fact 3 (f := .free "max") rfl),
   He.free_ok X G0 (c.t.d.fact 4 (f := .free "min") rfl),
   He.free_ok X G0 (c.t.d.fact 5 (f := .free "isinstance") rfl),
   He.free_ok X G0 (c.t.d.fact 6 (f := .free "bool") rfl),
   He.int_ok X G0 (c.t.d.fact 7 (f := .int "ONE" 1) rfl),
   He.int_ok X G0 (c.t.d.fact 8 (f := .int "ZERO" 0) rfl),
   ⟨He.glo_ok X G0 (c.t.d.fact 9 (f := .glo "NoSuchThing") rfl), He.exc_ok (c.t.d.fact 10 (f := .exc "NoSuchThing") rfl)⟩,
   ⟨He.glo_ok X G0 (c.t.d.fact 11 (f := .glo "InvalidValues") rfl), He.exc_ok (c.t.d.fact 12 (f := .exc "InvalidValues") rfl)⟩,
   fun p hp => of_decide_eq_true (List.all_eq_true.mp (ex_ok c.more 0 (f := fun K => tb_NoSuchThing.all fun p => decide (PySem.W.exmOne K (.ref (He.ga K p.1)) (.ref (He.ga K "NoSuchThing")) = some p.2)) rfl) p hp),
   fun p hp => of_decide_eq_true (List.all_eq_true.mp (ex_ok c.more 1 (f := fun K => tb_InvalidValues.all fun p => decide (PySem.W.exmOne K (.ref (He.ga K p.1)) (.ref (He.ga K "InvalidValues")) = some p.2)) rfl) p hp),
   c.t.d.def_ 0 (d := d_Diagrams___init__) rfl,
   He.glo_ok X G0 (c.t.d.fact 13 (f := .glo "Diagrams") rfl),
   He.mkr_ok (c.t.d.fact 14 (f := .mkr "Diagrams") rfl),
   He.glo_ok X G0 (c.t.d.fact 15 (f := .glo "_law_parts") rfl),
   c.t.d.def_ 1 (d := d__law_parts) rfl,
   c.t.d.def_ 2 (d := d_Diagrams__check) rfl,
   He.meth_ok (c.t.d.fact 16 (f := .meth "Diagrams" "_check") rfl),
   c.t.d.def_ 3 (d := d_Diagrams__top) rfl,
   He.meth_ok (c.t.d.fact 17 (f := .meth "Diagrams" "_top") rfl),
   c.t.d.def_ 4 (d := d_Diagrams__found) rfl,
   He.meth_ok (c.t.d.fact 18 (f := .meth "Diagrams" "_found") rfl),
   c.t.d.def_ 5 (d := d_Diagrams__side) rfl,
   He.meth_ok (c.t.d.fact 19 (f := .meth "Diagrams" "_side") rfl),
   c.t.d.def_ 6 (d := d_Diagrams__chosen) rfl,
   He.meth_ok (c.t.d.fact 20 (f := .meth "Diagrams" "_chosen") rfl),
   c.t.d.def_ 7 (d := d_Diagrams_choose) rfl,
   He.meth_ok (c.t.d.fact 21 (f := .meth "Diagrams" "choose") rfl),
   c.t.d.def_ 8 (d := d_Diagrams_negate) rfl,
   He.meth_ok (c.t.d.fact 22 (f := .meth "Diagrams" "negate") rfl),
   c.t.d.def_ 9 (d := d_Diagrams_differ) rfl,
   He.meth_ok (c.t.d.fact 23 (f := .meth "Diagrams" "differ") rfl),
   c.t.d.def_ 10 (d := d_Diagrams_both) rfl,
   He.meth_ok (c.t.d.fact 24 (f := .meth "Diagrams" "both") rfl),
   c.t.d.def_ 11 (d := d_Diagrams_either) rfl,
   He.meth_ok (c.t.d.fact 25 (f := .meth "Diagrams" "either") rfl),
   He.glo_ok X G0 (c.t.d.fact 26 (f := .glo "_law_apply") rfl),
   c.t.d.def_ 12 (d := d__law_apply) rfl,
   He.glo_ok X G0 (c.t.d.fact 27 (f := .glo "_law_cell") rfl),
   c.t.d.def_ 13 (d := d__law_cell) rfl,
   c.t.d.def_ 14 (d := d_Diagrams_variable) rfl,
   He.meth_ok (c.t.d.fact 28 (f := .meth "Diagrams" "variable") rfl),
   He.glo_ok X G0 (c.t.d.fact 29 (f := .glo "_law_bits") rfl),
   c.t.d.def_ 15 (d := d__law_bits) rfl,
   He.glo_ok X G0 (c.t.d.fact 30 (f := .glo "_law_functions") rfl),
   c.t.d.def_ 16 (d := d__law_functions) rfl,
   He.glo_ok X G0 (c.t.d.fact 31 (f := .glo "check_bits") rfl),
   c.t.d.def_ 17 (d := d_check_bits) rfl,
   c.t.d.def_ 18 (d := d_Diagrams_value) rfl,
   He.meth_ok (c.t.d.fact 32 (f := .meth "Diagrams" "value") rfl),
   He.glo_ok X G0 (c.t.d.fact 33 (f := .glo "_law_refusal") rfl),
   c.t.d.def_ 19 (d := d__law_refusal) rfl,
   c.t.d.def_ 20 (d := d_Diagrams_size) rfl,
   He.meth_ok (c.t.d.fact 34 (f := .meth "Diagrams" "size") rfl),
   c.t.d.def_ 21 (d := d_Diagrams_first_case) rfl,
   He.meth_ok (c.t.d.fact 35 (f := .meth "Diagrams" "first_case") rfl),
   He.glo_ok X G0 (c.t.d.fact 36 (f := .glo "_law_called") rfl),
   c.t.d.def_ 22 (d := d__law_called) rfl,
   He.glo_ok X G0 (c.t.d.fact 37 (f := .glo "_law_refuses") rfl),
   c.t.d.def_ 23 (d := d__law_refuses) rfl,
   He.glo_ok X G0 (c.t.d.fact 38 (f := .glo "_law_is_integer") rfl),
   c.t.d.def_ 24 (d := d__law_is_integer) rfl,
   He.glo_ok X G0 (c.t.d.fact 39 (f := .glo "law") rfl),
   c.t.d.def_ 25 (d := d_law) rfl,
   He.cls_ok (c.t.d.fact 40 (f := .cls "Diagrams") rfl),
   He.noat_ok (c.t.d.fact 41 (f := .noat "Diagrams" "_count") rfl),
   He.noat_ok (c.t.d.fact 42 (f := .noat "Diagrams" "_nodes") rfl),
   He.noat_ok (c.t.d.fact 43 (f := .noat "Diagrams" "_numbers") rfl),
   He.noat_ok (c.t.d.fact 44 (f := .noat "Diagrams" "_choices") rfl),
   ktB_ok (ex_ok c.more 2 (f := fun K => ktB (some st_Diagrams) K) rfl)⟩
theorem law_fn (pure : ∀ ns : List Int, ns.length ≤ 63 → f_law [.lst (ns.map Val.int)] = .ret (.bl true)) {P : Program} {w : World} {K : PySem.W.Frag} {h : Heap} {mg : Str → Option Value} {f : Addr} (X : K.In h) (G0 : h.Ns mainGlobals mg) (hfa : mg ("law" : Str) = some (.ref f)) (c : He.SaysX hFa hFn hTs [] hEx w h K) :
    ∃ (fd : FuncData) (sp : Sp), (∀ (s : Shared) (v : Value), BindsTo s fd ⟨[v], []⟩ [("_law_script", v)]) ∧ (∀ (H : Hp) (a : Addr) (ns : List Int), ns.length ≤ 63 → SqL K H a (ns.map V.int) → sp [.ref a] H (fun v _ => v = .bl true) fun _ _ _ => False) ∧
      ∀ base : Heap, K.In base → base.Ns mainGlobals mg → FnOk P w K mg base CX0 28 f fd ["_law_script"] sp := by
  have G := glb X G0 c
  obtain ⟨fd, F⟩ := G.D_law
  have e := hfa.symm.trans G.a_law
  cases e
  have b := FunD.bindsA (ps := ["_law_script"]) F fun _ _ _ _ _ _ us hl => match us, hl with | [_], _ => rfl
  refine ⟨fd, spLaw (spF K (xr K) 1 f_law), fun s v => b s [v] rfl, fun H a ns hl hS => ?_, fun base _ _ => ?_⟩
  · exact law_sp (pure ns hl) hS
  · exact FnOk.to0 (fn_ok F s_law rfl rfl (b_law G))
open PySem PySem.W PySem.Calls PyProof.Rows
theorem gr_holds (pure : ∀ ns : List Int, ns.length ≤ 63 → f_law [.lst (ns.map Val.int)] = .ret (.bl true)) : PySem.Challenge.rw_gatesread_k90_operations_on_diagrams.Holds := by
  w_on; o_law
  refine HandSHeadRun.head_any (r := OpenLaw.row PySem.Challenge.rw_gatesread_k90_operations_on_diagrams) (q := view (OpenLaw.row PySem.Challenge.rw_gatesread_k90_operations_on_diagrams).prog [20]) (H := hk) (ob := ob) (M := 4000) (loose := loose) (d := HandSHeadRun.topDef (OpenLaw.row PySem.Challenge.rw_gatesread_k90_operations_on_diagrams).prog 20) (kwd := []) ob_eq
    (by kernel_rfl) (fun s => by kernel_rfl) hrun (by kernel_rfl) (by kernel_rfl) (by kernel_rfl) (by rfl) (by first | assumption | decide +kernel) (by decide +kernel) ⟨rfl, rfl, rfl, rfl, rfl, by decide +kernel⟩ ?hw ?hc
  case hw => w_witness2
  case hc =>
    refine L2.walk_ofE (l := PySem.Challenge.rw_gatesread_k90_operations_on_diagrams) (n := 63) (k := 28) (x := "_law_script") (CX := L2.CX0) rfl (by decide) (by kernel_rfl) ⟨rfl, by decide, by decide⟩ ?F (fun _ _ _ _ z => z)
    intro w mg fa h Y G hmg0
    obtain ⟨K, KX, c⟩ := Y
    have hmg : mg ("law" : PySem.Str) = some (.ref fa) := by
      have e : (HandSHeadRun.topDef (OpenLaw.row PySem.Challenge.rw_gatesread_k90_operations_on_diagrams).prog 20).name = ("law" : PySem.Str) := by kernel_rfl
      rw [← e]
      exact hmg0
    obtain ⟨fd, sp, hb, hs, hF⟩ := law_fn pure (P := (PySem.Challenge.rw_gatesread_k90_operations_on_diagrams).prog) (w := w) KX G hmg c
    exact ⟨K, fd, sp, KX, hb, fun H a ns hl _ hS => hs H a ns hl hS, hF⟩
end K90
end Vm
noncomputable section
namespace Vm
namespace K90
open PySem Lib Dia
theorem size_ok (d : DG) : f_Diagrams_size [d.v] = .ret (.int ((d.ns.length + 2 : Nat) : Int)) := defn_retE rfl (sRet_ok (dlen (d := d) rfl))
theorem size_at {d : DG} {a : EX} {env : Env} (h : a env = .ok d.v) : eMeth "Diagrams" "size" f_Diagrams_size a aNil env = .ok (.int ((d.ns.length + 2 : Nat) : Int)) := dg_meth (d := d) h ⟨rfl, rfl⟩ rfl (size_ok d) rfl
theorem seq_exc {A B : ST} {env e : Env} {q : Exn} (h : A env = .exc q e) : sSeq A B env = .exc q e := by
  show (A env).bind B = _
  rw [h]
  rfl
theorem retM_exc {a : EM} {env e : Env} {q : Exn} (h : a env = .exc q e) : sRetM a env = .exc q e := by
  unfold sRetM
  rw [h]
  rfl
theorem ret_exc {a : EX} {env : Env} {q : Exn} (h : a env = .exc q) : sRet a env = .exc q env := by
  unfold sRet
  rw [h]
  rfl
theorem seqIf_yexc {t : EB} {A B : ST} {env e : Env} {q : Exn} (h : t env = .ok true) (hr : A env = .exc q e) : sSeq (sIf t A sNext) B env = .exc q e := by
  show (sIf t A sNext env).bind B = _
  rw [sIf_yes h, hr]
  rfl
abbrev Bad (d : DG) (z : Int) : Prop := ¬ (0 ≤ z ∧ z < (d.ns.length + 2 : Nat))
theorem choose_exc (d : DG) (a b c : Int) (h : ∃ x ∈ [a, b, c], Bad d x) : K90.f_Diagrams_choose d.tr [.int a, .int b, .int c] = .exc badD d.tr :=
  defnM_excE rfl ⟨[.me d.tr, .sh (.int a), .sh (.int b), .sh (.int c)], seq_exc (dchk_exc (d := d) [a, b, c] h (dg0 d _) rfl), rfl⟩
theorem negate_exc (d : DG) (a : Int) (h : Bad d a) : K90.f_Diagrams_negate d.tr [.int a] = .exc badD d.tr :=
  defnM_excE rfl ⟨[.me d.tr, .sh (.int a)], retM_exc (mMeth0_exc rfl (mCons_ok (mH_ok (x := .int a) rfl) (mCons_ok (mH_ok (x := .int 0) rfl) (mArg1 (x := .int 1) rfl))) (choose_exc d a 0 1 ⟨a, by simp, h⟩)), rfl⟩
theorem both_exc (d : DG) (a b : Int) (h : ∃ x ∈ [a, b], Bad d x) : K90.f_Diagrams_both d.tr [.int a, .int b] = .exc badD d.tr :=
  defnM_excE rfl ⟨[.me d.tr, .sh (.int a), .sh (.int b)], retM_exc (mMeth0_exc rfl (mCons_ok (mH_ok (x := .int a) rfl) (mCons_ok (mH_ok (x := .int b) rfl) (mArg1 (x := .int 0) rfl))) (choose_exc d a b 0 (by
    obtain ⟨x, hx, hb⟩ := h
    exact ⟨x, by simp only [List.mem_cons, List.not_mem_nil, or_false] at hx ⊢; rcases hx with rfl | rfl <;> simp, hb⟩))), rfl⟩
theorem either_exc (d : DG) (a b : Int) (h : ∃ x ∈ [a, b], Bad d x) : K90.f_Diagrams_either d.tr [.int a, .int b] = .exc badD d.tr :=
  defnM_excE rfl ⟨[.me d.tr, .sh (.int a), .sh (.int b)], retM_exc (mMeth0_exc rfl (mCons_ok (mH_ok (x := .int a) rfl) (mCons_ok (mH_ok (x := .int 1) rfl) (mArg1 (x := .int b) rfl))) (choose_exc d a 1 b (by
    obtain ⟨x, hx, hb⟩ := h
    exact ⟨x, by simp only [List.mem_cons, List.not_mem_nil, or_false] at hx ⊢; rcases hx with rfl | rfl <;> simp, hb⟩))), rfl⟩
theorem differ_exc (d : DG) (a b : Int) (h : ∃ x ∈ [a, b], Bad d x) : K90.f_Diagrams_differ d.tr [.int a, .int b] = .exc badD d.tr :=
  defnM_excE rfl ⟨[.me d.tr, .sh (.int a), .sh (.int b)], seq_exc (dchk_exc (d := d) [a, b] h (dg0 d _) rfl), rfl⟩
theorem first_exc (d : DG) (a : Int) (h : Bad d a) : K90.f_Diagrams_first_case [d.v, .int a] = .exc badD :=
  defn_excE rfl (e := [.sh d.v, .sh (.int a), .un, .un, .un, .un]) (seq_exc (dchk_exc (d := d) [a] ⟨a, by simp, h⟩ rfl rfl))
theorem value_excN (d : DG) (a : Int) (B : Val) (h : Bad d a) : K90.f_Diagrams_value [d.v, .int a, B] = .exc badD :=
  defn_excE rfl (e := [.sh d.v, .sh (.int a), .sh B, .un, .un, .un]) (seq_exc (dchk_exc (d := d) [a] ⟨a, by simp, h⟩ rfl rfl))
theorem value_excB (d : DG) (f : Nat) (hf : f < d.ns.length + 2) (ws : List Int) (h : ¬ ((ws.length : Int) = d.c ∧ ∀ w ∈ ws, w = 0 ∨ w = 1)) : K90.f_Diagrams_value [d.v, iv f, .lst (ws.map .int)] = .exc badVals := by
  have ck : Lib.f_check_bits [.lst (ws.map .int), .int (d.c : Int)] = .exc badVals := check_exc ws d.c h
  let E : Env := [.sh d.v, .sh (iv f), .sh (.lst (ws.map .int)), .un, .un, .un]
  have s0 : Lib.m_Diagrams_value E = m_Diagrams_value_1 E := seq_ok (dchkR_ok d [f] (fun x hx => by rw [List.mem_singleton.mp hx]; exact hf) rfl)
  have s1 : m_Diagrams_value_1 E = .exc badVals E := by
    refine seq_exc (sDrop_exc ?_)
    have ha : (aCons (eVar 2) (aCons (eFld "Diagrams" "_count" (eVar 0)) aNil)) E = .ok [.lst (ws.map .int), .int (d.c : Int)] := aCons_ok (x := .lst (ws.map .int)) rfl (aCons_ok (dg_count (d := d) (a := eVar 0) rfl) rfl)
    unfold eCall
    rw [ha]
    show (Lib.f_check_bits _).res = _
    rw [ck]
    rfl
  exact defn_excE rfl (e := E) (s0.trans s1)
theorem refusal_n (d : DG) (a : Int) (B : Val) (h : Bad d a) : f__law_refusal [d.v, .int a, B] = .ret (.str "node") := by
  have e : m__law_refusal_a_T [.sh d.v, .sh (.int a), .sh B] = .exc badD [.sh d.v, .sh (.int a), .sh B] := sDrop_exc (eMeth_exc (fs := [("_count", .int (d.c : Int)), ("_nodes", .lst (nodesV d.ns)), ("_numbers", .dcT (numsV 2 (d.ns.map key))), ("_choices", .dcT (chV d.ch))]) rfl rfl (value_excN d a B h) rfl)
  refine defn_retE rfl (e := [.sh d.v, .sh (.int a), .sh B]) ?_
  show (sTry2 tb_NoSuchThing tb_InvalidValues m__law_refusal_a_T (sRet (eC (.str "node"))) (sRet (eC (.str "bits"))) [.sh d.v, .sh (.int a), .sh B]).bind _ = _
  unfold sTry2
  rw [e]
  rfl
theorem refusal_b (d : DG) (f : Nat) (hf : f < d.ns.length + 2) (ws : List Int) (h : ¬ ((ws.length : Int) = d.c ∧ ∀ w ∈ ws, w = 0 ∨ w = 1)) : f__law_refusal [d.v, iv f, .lst (ws.map .int)] = .ret (.str "bits") := by
  have e : m__law_refusal_a_T [.sh d.v, .sh (iv f), .sh (.lst (ws.map .int))] = .exc badVals [.sh d.v, .sh (iv f), .sh (.lst (ws.map .int))] := sDrop_exc (eMeth_exc (fs := [("_count", .int (d.c : Int)), ("_nodes", .lst (nodesV d.ns)), ("_numbers", .dcT (numsV 2 (d.ns.map key))), ("_choices", .dcT (chV d.ch))]) rfl rfl (value_excB d f hf ws h) rfl)
  refine defn_retE rfl (e := [.sh d.v, .sh (iv f), .sh (.lst (ws.map .int))]) ?_
  show (sTry2 tb_NoSuchThing tb_InvalidValues m__law_refusal_a_T (sRet (eC (.str "node"))) (sRet (eC (.str "bits"))) [.sh d.v, .sh (iv f), .sh (.lst (ws.map .int))]).bind _ = _
  unfold sTry2
  rw [e]
  rfl
def leastK (k : Nat) : Nat := [3, 1, 2, 2, 2, 1].getD k 0
theorem called_exc (d : DG) (k at_ : Nat) (hk : k < 6) (ha : at_ < leastK k) (g z : Int) (hz : Bad d z) : f__law_called d.tr [.int k, .lst (([g, g, g].set at_ z).map .int)] = .exc badD d.tr := by
  obtain ⟨x, y, w, hs, hx, hy, hw⟩ : ∃ x y w : Int, [g, g, g].set at_ z = [x, y, w] ∧ (at_ = 0 → x = z) ∧ (at_ = 1 → y = z) ∧ (at_ = 2 → w = z) := by
    have : leastK k ≤ 3 := by rcases (by omega : k = 0 ∨ k = 1 ∨ k = 2 ∨ k = 3 ∨ k = 4 ∨ k = 5) with rfl | rfl | rfl | rfl | rfl | rfl <;> decide
    rcases (by omega : at_ = 0 ∨ at_ = 1 ∨ at_ = 2) with rfl | rfl | rfl
    · exact ⟨z, g, g, rfl, fun _ => rfl, fun h => by omega, fun h => by omega⟩
    · exact ⟨g, z, g, rfl, fun h => by omega, fun _ => rfl, fun h => by omega⟩
    · exact ⟨g, g, z, rfl, fun h => by omega, fun h => by omega, fun _ => rfl⟩
  rw [hs]
  let E : Env := [.me d.tr, .sh (.int k), .sh (.lst [.int x, .int y, .int w])]
  have two : at_ < 2 → ∃ v ∈ [x, y], Bad d v := fun h => by
    rcases (by omega : at_ = 0 ∨ at_ = 1) with h | h
    · exact ⟨x, by simp, by rw [hx h]; exact hz⟩
    · exact ⟨y, by simp, by rw [hy h]; exact hz⟩
  refine defnM_excE rfl ⟨E, ?_, rfl⟩
  show m__law_called E = .exc badD E
  have dec : ∀ j : Nat, (bVal (e2 vEq (eVar 1) (eC (.int j)))) E = .ok (decide ((k : Int) = (j : Int))) := fun j => bVal_ok (e2_ok (x := .int k) (y := .int j) rfl rfl (vEq_i _ _))
  have no : ∀ j : Nat, k ≠ j → (bVal (e2 vEq (eVar 1) (eC (.int j)))) E = .ok false := fun j h => by rw [dec, decide_eq_false (by omega)]
  have yes : ∀ j : Nat, k = j → (bVal (e2 vEq (eVar 1) (eC (.int j)))) E = .ok true := fun j h => by rw [dec, decide_eq_true (by omega)]
  have hle : leastK k = [3, 1, 2, 2, 2, 1].getD k 0 := rfl
  by_cases h0 : k = 0
  · refine seqIf_yexc (yes 0 h0) (retM_exc (mMeth0_exc rfl (mCons_ok (mH_ok (x := .int x) rfl) (mCons_ok (mH_ok (x := .int y) rfl) (mArg1 (x := .int w) rfl))) (choose_exc d x y w ?_)))
    subst h0
    have ha : at_ < 3 := ha
    rcases (by omega : at_ = 0 ∨ at_ = 1 ∨ at_ = 2) with h | h | h
    · exact ⟨x, by simp, by rw [hx h]; exact hz⟩
    · exact ⟨y, by simp, by rw [hy h]; exact hz⟩
    · exact ⟨w, by simp, by rw [hw h]; exact hz⟩
  refine (seqIf_no (no 0 h0)).trans ?_
  by_cases h1 : k = 1
  · refine seqIf_yexc (yes 1 h1) (retM_exc (mMeth0_exc rfl (mArg1 (x := .int x) rfl) (negate_exc d x ?_)))
    subst h1
    have ha : at_ < 1 := ha
    rw [hx (by omega)]
    exact hz
  refine (seqIf_no (no 1 h1)).trans ?_
  by_cases h2 : k = 2
  · refine seqIf_yexc (yes 2 h2) (retM_exc (mMeth0_exc rfl (mCons_ok (mH_ok (x := .int x) rfl) (mArg1 (x := .int y) rfl)) (both_exc d x y (two ?_))))
    subst h2
    exact ha
  refine (seqIf_no (no 2 h2)).trans ?_
  by_cases h3 : k = 3
  · refine seqIf_yexc (yes 3 h3) (retM_exc (mMeth0_exc rfl (mCons_ok (mH_ok (x := .int x) rfl) (mArg1 (x := .int y) rfl)) (either_exc d x y (two ?_))))
    subst h3
    exact ha
  refine (seqIf_no (no 3 h3)).trans ?_
  by_cases h4 : k = 4
  · refine seqIf_yexc (yes 4 h4) (retM_exc (mMeth0_exc rfl (mCons_ok (mH_ok (x := .int x) rfl) (mArg1 (x := .int y) rfl)) (differ_exc d x y (two ?_))))
    subst h4
    exact ha
  refine (seqIf_no (no 4 h4)).trans ?_
  have h5 : k = 5 := by omega
  subst h5
  have ha : at_ < 1 := ha
  have hb : Bad d x := by rw [hx (by omega)]; exact hz
  exact ret_exc (eMeth_exc (fs := [("_count", .int (d.c : Int)), ("_nodes", .lst (nodesV d.ns)), ("_numbers", .dcT (numsV 2 (d.ns.map key))), ("_choices", .dcT (chV d.ch))]) (dg0 d _) (aCons_ok (x := .int x) rfl rfl) (first_exc d x hb) rfl)
theorem refuses_ok (d : DG) (k at_ : Nat) (hk : k < 6) (ha : at_ < leastK k) (g z : Int) (hz : Bad d z) : f__law_refuses d.tr [.int k, .lst (([g, g, g].set at_ z).map .int)] = .ret (.bl true) d.tr := by
  let S : Val := .int ((d.ns.length + 2 : Nat) : Int)
  let L : Val := .lst (([g, g, g].set at_ z).map .int)
  let E : Slot → Env := fun s => [.me d.tr, .sh (.int k), .sh L, s]
  have t0 : m__law_refuses (E .un) = m__law_refuses_1 (E (.sh S)) := seq_ok (sSetN_ok (i := 3) (size_at (d := d) (dg0 d _)) (by show 3 < 4; decide) rfl)
  have tb : m__law_refuses_b_T (E (.sh S)) = .exc badD (E (.sh S)) := by
    have hc : mCall 0 f__law_called (mCons (mH (eVar 1)) (mCons (mH (eVar 2)) mNil)) (E (.sh S)) = .exc badD (E (.sh S)) := mCall0_exc (mCons_ok (mH_ok (x := .int k) rfl) (mArg1 (x := L) rfl)) (called_exc d k at_ hk ha g z hz)
    unfold m__law_refuses_b_T sDropM
    rw [hc]
    rfl
  have t1 : m__law_refuses_1 (E (.sh S)) = .ret (.bl true) (E (.sh S)) := by
    have su : sRet (e2 vEq (eMeth "Diagrams" "size" f_Diagrams_size (eVar 0) aNil) (eVar 3)) (E (.sh S)) = .ret (.bl true) (E (.sh S)) := by
      refine sRet_ok ((e2_ok (size_at (d := d) (dg0 d _)) (y := S) rfl (vEq_i _ _)).trans ?_)
      rw [decide_eq_true rfl]
    show (sTry tb_NoSuchThing m__law_refuses_b_T (fun _ => (sRet (e2 vEq (eMeth "Diagrams" "size" f_Diagrams_size (eVar 0) aNil) (eVar 3)))) (E (.sh S))).bind _ = _
    unfold sTry
    rw [tb]
    show ((sRet (e2 vEq (eMeth "Diagrams" "size" f_Diagrams_size (eVar 0) aNil) (eVar 3)) (E (.sh S))).calm).bind _ = _
    rw [su]
    rfl
  exact defnM_retE rfl rfl ⟨E (.sh S), t0.trans t1, rfl⟩
end K90
end Vm
end
noncomputable section
namespace Vm
namespace K90
open PySem Lib Dia
theorem neI' {p q : EX} {env : Env} {i j : Int} (h1 : p env = .ok (.int i)) (h2 : q env = .ok (.int j)) : bVal (Vm.e2 vNe p q) env = .ok (!(i == j)) := bVal_ok (e2_ok h1 h2 (by unfold vNe; rw [eqR_int]; rfl))
theorem neS' {p q : EX} {env : Env} {i j : Str} (h1 : p env = .ok (.str i)) (h2 : q env = .ok (.str j)) : bVal (Vm.e2 vNe p q) env = .ok (decide (i ≠ j)) := bVal_ok (e2_ok h1 h2 (vNe_s _ _))
abbrev E (A : Val) (d : DG) (c : Nat) (nums : List Nat) (s1 s2 s3 s4 s5 s6 s7 s12 s13 s14 : Slot) : Env := [.sh A, s1, s2, s3, s4, s5, s6, s7, .oT d.tr, .sh (iv c), .sh (.lst (nums.map iv)), .sh (.lst (rowsL (2 ^ c) d nums)), s12, s13, s14]
section
variable (A : Val) (d : DG) (c : Nat) (nums : List Nat) (hc : c ≤ 5) (nr : NR c 40000 d nums) (hl : nums.length ≤ 21)
include hc nr hl
/-- the values of a node at all cases -/
theorem inner (k : Nat) (hk : k < nums.length) (s2 s3 s4 s5 s6 s7 s12 s13 s14 : Slot) : ∃ t12 t14, m_law_ba_F (E A d c nums (.sh (iv k)) s2 s3 s4 s5 s6 s7 s12 s13 s14) = .next (E A d c nums (.sh (iv k)) s2 s3 s4 s5 s6 s7 t12 s13 t14) := by
  have hcd : d.c = c := nr.c
  have w : WD d.c d.ns := nr.ok.gd.wd
  have hn1 := nr.ok.n1
  have pw : 2 ^ c ≤ 32 := Nat.pow_le_pow_right (n := 2) (by omega) hc
  have hf : nums[k] < d.ns.length + 2 := nr.lt _ (List.getElem_mem _)
  have er : ∀ s12 s14, (Vm.e2 vIx (eVar 11) (eVar 1)) (E A d c nums (.sh (iv k)) s2 s3 s4 s5 s6 s7 s12 s13 s14) = .ok (rowB (2 ^ c) (val d.ns nums[k])) := fun _ _ => e2_ok (x := .lst (rowsL (2 ^ c) d nums)) (y := iv k) rfl rfl (rows_ix hk)
  have ef : ∀ s12 s14, (Vm.e2 vIx (eVar 10) (eVar 1)) (E A d c nums (.sh (iv k)) s2 s3 s4 s5 s6 s7 s12 s13 s14) = .ok (iv nums[k]) := fun _ _ => e2_ok (x := .lst (nums.map iv)) (y := iv k) rfl rfl (nums_ix hk)
  obtain ⟨e, h1, t12, t14, rfl⟩ := sFor_steps (it := iRange1 (eArgs vLen (aCons (Vm.e2 vIx (eVar 11) (eVar 1)) aNil))) (put := pName 12) (body := m_law_ba_L) (env := E A d c nums (.sh (iv k)) s2 s3 s4 s5 s6 s7 s12 s13 s14) ((List.range (2 ^ c)).map iv) (by
      rw [← rangeL_nv]
      refine range1_ok ?_ (by omega)
      have er' : (Vm.e2 vIx (eVar 11) (eVar 1)) (hide (E A d c nums (.sh (iv k)) s2 s3 s4 s5 s6 s7 s12 s13 s14)) = .ok (rowB (2 ^ c) (val d.ns nums[k])) := e2_ok (x := .lst (rowsL (2 ^ c) d nums)) (y := iv k) rfl rfl (rows_ix hk)
      refine eArgs_ok (aCons_ok er' rfl) ?_
      show Res.ok (Val.int (((List.range (2 ^ c)).map _).length : Nat)) = _
      rw [List.length_map, List.length_range])
    (fun i e => ∃ s12 s14, e = E A d c nums (.sh (iv k)) s2 s3 s4 s5 s6 s7 s12 s13 s14) ⟨_, _, rfl⟩ (fun i h e ⟨s12, s14, he⟩ => by
      subst he
      rw [List.length_map, List.length_range] at h
      let V : Val := .int (b2i (val d.ns nums[k] (bitsOf i)))
      have hb : eCall f__law_bits (aCons (eVar 12) (aCons (eVar 9) aNil)) (E A d c nums (.sh (iv k)) s2 s3 s4 s5 s6 s7 (.sh (iv i)) s13 s14) = .ok (.lst (((List.range c).map (bitsOf i)).map bv)) := eCall_ok (aCons_ok (x := iv i) rfl (aCons_ok (x := iv c) rfl rfl)) (dbits_ok i c (by omega))
      have dv := dvalue_ok d w (by omega) nums[k] hf (by omega) (bitsOf i)
      rw [hcd] at dv
      have t0 : m_law_ba_L (E A d c nums (.sh (iv k)) s2 s3 s4 s5 s6 s7 (.sh (iv i)) s13 s14) = m_law_ba_1 (E A d c nums (.sh (iv k)) s2 s3 s4 s5 s6 s7 (.sh (iv i)) s13 (.sh V)) := seq_ok (sSetN_ok (i := 14) (dg_meth (d := d) (dgT_var (i := 8) rfl) ⟨rfl, rfl⟩ (aCons_ok (ef _ _) (aCons_ok hb rfl)) dv rfl) (by show 14 < 15; decide) rfl)
      have e3 : (Vm.e2 vIx (Vm.e2 vIx (eVar 11) (eVar 1)) (eVar 12)) (E A d c nums (.sh (iv k)) s2 s3 s4 s5 s6 s7 (.sh (iv i)) s13 (.sh V)) = .ok V := e2_ok (er _ _) (y := .int (i : Int)) rfl (row_ix (2 ^ c) (val d.ns nums[k]) i h)
      refine ⟨E A d c nums (.sh (iv k)) s2 s3 s4 s5 s6 s7 (.sh (iv i)) s13 s14, E A d c nums (.sh (iv k)) s2 s3 s4 s5 s6 s7 (.sh (iv i)) s13 (.sh V), ?_, ?_, _, _, rfl⟩
      · rw [List.getElem_map, List.getElem_range]
        rfl
      · rw [t0]
        refine sIf_no (bOr_no (bNot_ok (b := true) (bTruth_ok (eCall_ok (aCons_ok (x := V) rfl rfl) rfl))) ?_)
        rw [neI' (i := b2i (val d.ns nums[k] (bitsOf i))) (j := b2i (val d.ns nums[k] (bitsOf i))) rfl e3]
        simp)
  exact ⟨t12, t14, h1⟩
end
/-- bits that are refused -/
theorem bad_bits (B : List Int) (c : Nat) (hB : B.length = c) (p : Nat) (hp : p < 3) (hc : 0 < c) : ∃ ws : List Int, ([B ++ [0], B.drop 1, B.take (c - 1) ++ [2]] : List (List Int))[p]? = some ws ∧ ¬ ((ws.length : Int) = c ∧ ∀ w ∈ ws, w = 0 ∨ w = 1) := by
  rcases (by omega : p = 0 ∨ p = 1 ∨ p = 2) with rfl | rfl | rfl
  · refine ⟨_, rfl, fun h => ?_⟩
    have := h.1
    rw [List.length_append, List.length_singleton, hB] at this
    omega
  · refine ⟨_, rfl, fun h => ?_⟩
    have := h.1
    rw [List.length_drop, hB] at this
    omega
  · refine ⟨_, rfl, fun h => ?_⟩
    have := h.2 2 (by simp)
    omega
theorem parts_k (c : Int) (sizes : List Int) (hs : ∀ n ∈ sizes, 0 < n ∧ n < 18446744073709551616) (hl : sizes.length ≤ 100) : ∃ ps : List Int, f__law_parts [.int c, .lst (sizes.map .int)] = .ret (.lst (ps.map .int)) ∧ Parts ps sizes := by
  obtain ⟨y, h, ps, rfl, hp⟩ := parts_ok c sizes hs hl
  exact ⟨ps, h, hp⟩
theorem cell_k (ns : List Int) (k : Nat) : ∃ c, f__law_cell [.lst (ns.map .int), .int k] = .ret (.int c) := cell_ok ns k
theorem cut1 {α : Type} (l : List α) : cut l (some 1) none = l.drop 1 := by
  unfold cut
  have e : cutAt l.length 0 (some 1) = min 1 l.length := rfl
  have e2 : cutAt l.length l.length none = l.length := rfl
  rw [e, e2]
  cases l with
  | nil => rfl
  | cons a l =>
    rw [show min 1 (a :: l).length = 1 by rw [List.length_cons]; omega]
    rw [List.take_of_length_le (by rw [List.length_drop]; omega)]
theorem cutm1 {α : Type} (l : List α) : cut l none (some (-1)) = l.take (l.length - 1) := by
  unfold cut
  have e : cutAt l.length 0 none = 0 := rfl
  have e2 : cutAt l.length l.length (some (-1)) = l.length - 1 := by
    show ((-1 : Int) + (l.length : Int)).toNat = _
    omega
  rw [e, e2, List.drop_zero, Nat.sub_zero]
theorem law_pure : ∀ ns : List Int, ns.length ≤ 63 → f_law [.lst (ns.map Val.int)] = .ret (.bl true) := by
  intro ns hns
  obtain ⟨c, d, nums, hf, hc, nr, hl, h0⟩ := functions_ok ns hns
  let A : Val := .lst (ns.map .int)
  have hcd : d.c = c := nr.c
  obtain ⟨x, ex⟩ := cell_k ns 15
  have ex : f__law_cell [.lst (ns.map .int), .int 15] = .ret (.int x) := ex
  obtain ⟨ps, ep, hp⟩ := parts_k x [3, 6, 3, 1000000000, 60] (by
    intro n hn
    simp only [List.mem_cons, List.not_mem_nil, or_false] at hn
    rcases hn with rfl | rfl | rfl | rfl | rfl <;> omega) (by show 5 ≤ 100; omega)
  obtain ⟨q0, _, rfl, b0, hp⟩ := hp.cons
  obtain ⟨q1, _, rfl, b1, hp⟩ := hp.cons
  obtain ⟨q2, _, rfl, b2, hp⟩ := hp.cons
  obtain ⟨q3, _, rfl, b3, hp⟩ := hp.cons
  obtain ⟨q4, _, rfl, b4, hp⟩ := hp.cons
  obtain rfl := hp.nil'
  have ep : f__law_parts [.int x, .lst [.int 3, .int 6, .int 3, .int 1000000000, .int 60]] = .ret (.lst [.int q0, .int q1, .int q2, .int q3, .int q4]) := ep
  obtain ⟨p0, rfl⟩ : ∃ a : Nat, q0 = a := ⟨q0.toNat, by omega⟩
  obtain ⟨k, rfl⟩ : ∃ a : Nat, q1 = a := ⟨q1.toNat, by omega⟩
  obtain ⟨p2, rfl⟩ : ∃ a : Nat, q2 = a := ⟨q2.toNat, by omega⟩
  obtain ⟨p3, rfl⟩ : ∃ a : Nat, q3 = a := ⟨q3.toNat, by omega⟩
  obtain ⟨p4, rfl⟩ : ∃ a : Nat, q4 = a := ⟨q4.toNat, by omega⟩
  let P : Slot := .sh (.lst [.int p0, .int k, .int p2, .int p3, .int p4])
  let B : List Int := ((List.range c).map (bitsOf p4)).map b2i
  have hBl : B.length = c := by show (((List.range c).map (bitsOf p4)).map b2i).length = c; rw [List.length_map, List.length_map, List.length_range]
  have hBv : ((List.range c).map (bitsOf p4)).map bv = B.map .int := by
    show _ = (((List.range c).map (bitsOf p4)).map b2i).map Val.int
    rw [List.map_map (f := b2i)]
    rfl
  refine defn_ret rfl ?_
  have t0 : m_law [.sh A, .un, .un, .un, .un, .un, .un, .un, .un, .un, .un, .un, .un, .un, .un] = m_law_1 (E A d c nums .un .un .un .un .un .un .un .un .un .un) := seq_ok (sPutU_ok (i := 8) (aCons_ok (x := A) rfl rfl) hf (by show 8 < 15; decide) rfl)
  show Ok (m_law [.sh A, .un, .un, .un, .un, .un, .un, .un, .un, .un, .un, .un, .un, .un, .un]) _ _ _ _
  rw [t0]
  obtain ⟨e, hF, s1, s12, s14, rfl⟩ := sFor_steps (it := iRange1 (eArgs vLen (aCons (eVar 10) aNil))) (put := pName 1) (body := m_law_ba_F) (env := E A d c nums .un .un .un .un .un .un .un .un .un .un) ((List.range nums.length).map iv) (by
      rw [← rangeL_nv]
      refine range1_ok ?_ (by omega)
      show Res.ok (Val.int ((nums.map iv).length : Int)) = _
      rw [List.length_map])
    (fun i e => ∃ s1 s12 s14, e = E A d c nums s1 .un .un .un .un .un .un s12 .un s14) ⟨_, _, _, rfl⟩ (fun i h e ⟨s1, s12, s14, he⟩ => by
      subst he
      rw [List.length_map, List.length_range] at h
      obtain ⟨t12, t14, e1⟩ := inner A d c nums hc nr hl i h .un .un .un .un .un .un s12 .un s14
      refine ⟨_, _, ?_, e1, _, _, _, rfl⟩
      rw [List.getElem_map, List.getElem_range]
      rfl)
  have t1 : m_law_1 (E A d c nums .un .un .un .un .un .un .un .un .un .un) = m_law_2 (E A d c nums s1 .un .un .un .un .un .un s12 .un s14) := seq_ok hF
  rw [t1]
  unfold m_law_2
  apply go_set (x := .lst [.int p0, .int k, .int p2, .int p3, .int p4])
  · have h9 : Vm.e2 vPow (eC (.int 10)) (eC (.int 9)) (hide (E A d c nums s1 .un .un .un .un .un .un s12 .un s14)) = .ok (.int 1000000000) := e2_ok (x := .int 10) (y := .int 9) rfl rfl vPow9
    refine eCall_ok (xs := [.int x, .lst [.int 3, .int 6, .int 3, .int 1000000000, .int 60]]) (aCons_ok (eCall_ok (aCons_ok (x := A) rfl (aCons_ok (x := .int 15) rfl rfl)) ex) (aCons_ok (eArgs_go (aCons_ok (x := .int 3) rfl (aCons_ok (x := .int 6) rfl (aCons_ok (x := .int 3) rfl (aCons_ok h9 (aCons_ok (x := .int 60) rfl rfl))))) rfl) rfl)) ep
  · rfl
  unfold m_law_3
  apply go_set (x := .lst (B.map .int))
  · have := dbits_ok p4 c (by omega)
    rw [hBv] at this
    exact eCall_ok (xs := [iv p4, iv c]) (aCons_ok (x := iv p4) rfl (aCons_ok (x := iv c) rfl rfl)) this
  · rfl
  -- the bits that are refused
  have hW : ∃ W : List Int, ([B ++ [0], B.drop 1, B.take (c - 1) ++ [2]] : List (List Int))[p0]? = some W := by
    rcases (by omega : p0 = 0 ∨ p0 = 1 ∨ p0 = 2) with rfl | rfl | rfl <;> exact ⟨_, rfl⟩
  obtain ⟨W, hW⟩ := hW
  have hBm : (B.map Val.int).length = c := by rw [List.length_map, hBl]
  unfold m_law_4
  apply go_set (x := .lst (W.map .int))
  · have hv : eVar 3 (hide ((E A d c nums s1 .un .un .un .un .un .un s12 .un s14).set 2 P |>.set 3 (.sh (.lst (B.map .int))))) = .ok (.lst (B.map .int)) := rfl
    refine e2_ok (x := .lst [.lst ((B ++ [0]).map .int), .lst ((B.drop 1).map .int), .lst ((B.take (c - 1) ++ [2]).map .int)]) (y := .int p0) (eArgs_go (aCons_ok (e2_ok hv (y := .lst [.int 0]) rfl ?_) (aCons_ok ((cutFrom_ok hv (m := 1) rfl).trans ?_) (aCons_ok (e2_ok (cutTo_ok hv (m := -1) rfl) (y := .lst [.int 2]) rfl ?_) rfl))) rfl) rfl ?_
    · rw [vAdd_lst, if_pos (by rw [hBm]; show c + 1 ≤ _; omega), List.map_append]
      rfl
    · rw [cut1, List.map_drop]
    · rw [cutm1, hBm, vAdd_lst, if_pos (by rw [List.length_take, hBm]; show min (c - 1) c + 1 ≤ _; omega), List.map_append, List.map_take]
      rfl
    · show Res.ofOpt (atI [Val.lst ((B ++ [0]).map .int), .lst ((B.drop 1).map .int), .lst ((B.take (c - 1) ++ [2]).map .int)] (p0 : Int)) = _
      rw [atI_nat]
      rcases (by omega : p0 = 0 ∨ p0 = 1 ∨ p0 = 2) with rfl | rfl | rfl <;> (injection hW with hW; subst hW; rfl)
  · rfl
  have hws : ∃ ws : List Int, (if c = 0 then [0] else W) = ws ∧ ¬ ((ws.length : Int) = c ∧ ∀ w ∈ ws, w = 0 ∨ w = 1) := by
    by_cases hc0 : c = 0
    · refine ⟨[0], if_pos hc0, fun h => ?_⟩
      have := h.1
      rw [List.length_singleton, hc0] at this
      omega
    · obtain ⟨ws, e1, e2⟩ := bad_bits B c hBl p0 (by omega) (by omega)
      rw [hW] at e1
      cases e1
      exact ⟨W, if_neg hc0, e2⟩
  obtain ⟨ws, hwe, hws⟩ := hws
  unfold m_law_5
  apply go_ifP (c := decide ((c : Int) = 0)) (P := fun e => e = E A d c nums s1 P (.sh (.lst (B.map .int))) (.sh (.lst (ws.map .int))) .un .un .un s12 .un s14)
  · apply bVal_ok
    exact e2_ok (x := iv c) (y := .int 0) rfl rfl (vEq_i _ _)
  · intro hb
    have hc0 : c = 0 := by have := of_decide_eq_true hb; omega
    rw [if_pos hc0] at hwe
    subst hwe
    apply go_last
    apply go_set (x := .lst [.int 0])
    · rfl
    · rfl
    apply go_end
    rfl
  · intro hb
    have hc0 : ¬ c = 0 := by have := of_decide_eq_false hb; omega
    rw [if_neg hc0] at hwe
    subst hwe
    apply go_end
    rfl
  rintro e rfl
  -- a number that is no node
  obtain ⟨z, hz, hzv⟩ : ∃ z : Int, Bad d z ∧ ([-1, ((d.ns.length + 2 : Nat) : Int), ((d.ns.length + 2 : Nat) : Int) + 1 + (p3 : Int)] : List Int)[p2]? = some z := by
    rcases (by omega : p2 = 0 ∨ p2 = 1 ∨ p2 = 2) with rfl | rfl | rfl
    · exact ⟨_, fun h => by omega, rfl⟩
    · exact ⟨_, fun h => by omega, rfl⟩
    · exact ⟨_, fun h => by omega, rfl⟩
  unfold m_law_6
  apply go_setN (x := .int z)
  · have hsz := size_at (d := d) (a := eVar 8) (env := E A d c nums s1 P (.sh (.lst (B.map .int))) (.sh (.lst (ws.map .int))) .un .un .un s12 .un s14) (dgT_var (i := 8) rfl)
    refine e2_ok (x := .lst [.int (-1), .int ((d.ns.length + 2 : Nat) : Int), .int (((d.ns.length + 2 : Nat) : Int) + 1 + (p3 : Int))]) (y := .int p2) (eArgs_go (aCons_ok (x := .int (-1)) rfl (aCons_ok hsz (aCons_ok (e2_ok (e2_ok hsz (y := .int 1) rfl rfl) (y := .int p3) rfl rfl) rfl))) rfl) rfl ?_
    show Res.ofOpt (atI [Val.int (-1), .int ((d.ns.length + 2 : Nat) : Int), .int (((d.ns.length + 2 : Nat) : Int) + 1 + (p3 : Int))] (p2 : Int)) = _
    rw [atI_nat]
    rcases (by omega : p2 = 0 ∨ p2 = 1 ∨ p2 = 2) with rfl | rfl | rfl <;> (injection hzv with hzv; subst hzv; rfl)
  · rfl
  · rfl
  have hmod : p4 % nums.length < nums.length := Nat.mod_lt _ h0
  let g : Nat := nums[p4 % nums.length]
  have hg : g < d.ns.length + 2 := nr.lt _ (List.getElem_mem _)
  unfold m_law_7
  apply go_set (x := iv g)
  · refine e2_ok (x := .lst (nums.map iv)) (y := .int ((p4 % nums.length : Nat) : Int)) rfl (e2_ok (x := .int p4) (y := .int (nums.length : Int)) rfl ?_ ?_) (nums_ix hmod)
    · show Res.ok (Val.int ((nums.map iv).length : Int)) = _
      rw [List.length_map]
    · rw [vMod_o _ _ (by omega)]
      rfl
  · rfl
  unfold m_law_8
  have vd : ∀ {a1 a2 a3 a4 a5 a6 a7 a12 a13 a14 : Slot}, eVar 8 (E A d c nums a1 a2 a3 a4 a5 a6 a7 a12 a13 a14) = .ok d.v := dgT_var (i := 8) rfl
  apply go_if (c := false)
  · have e1 : (eCall f__law_refusal (aCons (eVar 8) (aCons (eVar 6) (aCons (eVar 4) aNil)))) (E A d c nums s1 P (.sh (.lst (B.map .int))) (.sh (.lst (ws.map .int))) (.sh (.int z)) (.sh (iv g)) .un s12 .un s14) = .ok (.str "bits") := eCall_ok (aCons_ok vd (aCons_ok (x := iv g) rfl (aCons_ok (x := .lst (ws.map .int)) rfl rfl))) (refusal_b d g hg ws (by rw [hcd]; exact hws))
    exact (neS' e1 rfl).trans (by rw [decide_eq_false (by simp)])
  · intro h; cases h
  intro _
  apply go_next
  unfold m_law_9
  apply go_if (c := false)
  · refine bOr_no ?_ ?_
    · have e1 : (eCall f__law_refusal (aCons (eVar 8) (aCons (eVar 5) (aCons (eVar 4) aNil)))) (E A d c nums s1 P (.sh (.lst (B.map .int))) (.sh (.lst (ws.map .int))) (.sh (.int z)) (.sh (iv g)) .un s12 .un s14) = .ok (.str "node") := eCall_ok (aCons_ok vd (aCons_ok (x := .int z) rfl (aCons_ok (x := .lst (ws.map .int)) rfl rfl))) (refusal_n d z _ hz)
      exact (neS' e1 rfl).trans (by rw [decide_eq_false (by simp)])
    · have e1 : (eCall f__law_refusal (aCons (eVar 8) (aCons (eVar 5) (aCons (eVar 3) aNil)))) (E A d c nums s1 P (.sh (.lst (B.map .int))) (.sh (.lst (ws.map .int))) (.sh (.int z)) (.sh (iv g)) .un s12 .un s14) = .ok (.str "node") := eCall_ok (aCons_ok vd (aCons_ok (x := .int z) rfl (aCons_ok (x := .lst (B.map .int)) rfl rfl))) (refusal_n d z _ hz)
      exact (neS' e1 rfl).trans (by rw [decide_eq_false (by simp)])
  · intro h; cases h
  intro _
  apply go_next
  unfold m_law_10
  have hk : k < 6 := by omega
  apply go_set (x := .int (leastK k : Nat))
  · refine e2_ok (x := .lst [.int 3, .int 1, .int 2, .int 2, .int 2, .int 1]) (y := .int k) rfl rfl ?_
    rcases (by omega : k = 0 ∨ k = 1 ∨ k = 2 ∨ k = 3 ∨ k = 4 ∨ k = 5) with rfl | rfl | rfl | rfl | rfl | rfl <;> rfl
  · rfl
  have hk3 : leastK k ≤ 3 := by rcases (by omega : k = 0 ∨ k = 1 ∨ k = 2 ∨ k = 3 ∨ k = 4 ∨ k = 5) with rfl | rfl | rfl | rfl | rfl | rfl <;> decide
  unfold m_law_11 m_law_l_F
  apply go_range (n := leastK k) (I := fun i e => ∃ s1 s13, e = E A d c nums s1 P (.sh (.lst (B.map .int))) (.sh (.lst (ws.map .int))) (.sh (.int z)) (.sh (iv g)) (.sh (.int (leastK k : Nat))) s12 s13 s14)
  · rfl
  · omega
  · exact ⟨_, _, rfl⟩
  · rintro i hi e ⟨s1, s13, rfl⟩
    refine ⟨_, rfl, ?_⟩
    let F : Slot → Env := fun s => E A d c nums (.sh (.int (i : Nat))) P (.sh (.lst (B.map .int))) (.sh (.lst (ws.map .int))) (.sh (.int z)) (.sh (iv g)) (.sh (.int (leastK k : Nat))) s12 s s14
    have u0 : m_law_l_L (F s13) = m_law_l_1 (F (.oL [iv g, iv g, iv g])) := seq_ok (sOwn_ok (i := 13) rfl (by show 13 < 15; decide))
    have u1 : m_law_l_1 (F (.oL [iv g, iv g, iv g])) = m_law_l_2 (F (.oL (([(g : Int), g, g].set i z).map .int))) := by
      refine seq_ok ?_
      rcases (by omega : i = 0 ∨ i = 1 ∨ i = 2) with rfl | rfl | rfl <;> rfl
    have u2 : m_law_l_2 (F (.oL (([(g : Int), g, g].set i z).map .int))) = m_law_l_3 (F (.sh (.lst (([(g : Int), g, g].set i z).map .int)))) := seq_ok rfl
    have hcall : mCall 8 f__law_refuses (mCons (mH (Vm.e2 vIx (eVar 2) (eC (.int 1)))) (mCons (mH (eVar 13)) mNil)) (F (.sh (.lst (([(g : Int), g, g].set i z).map .int)))) = .ok (.bl true) (F (.sh (.lst (([(g : Int), g, g].set i z).map .int)))) :=
      mCallI_ret (i := 8) (t := d.tr) rfl (mCons_ok (mH_ok (x := .int k) rfl) (mArg1 (x := .lst (([(g : Int), g, g].set i z).map .int)) rfl)) (refuses_ok d k i hk hi g z hz)
    have u3 : m_law_l_3 (F (.sh (.lst (([(g : Int), g, g].set i z).map .int)))) = .next (F (.sh (.lst (([(g : Int), g, g].set i z).map .int)))) := by
      unfold m_law_l_3 sIfM bmNot bmT
      rw [hcall]
      rfl
    show Ok (m_law_l_L (F s13)) _ _ _ _
    rw [u0, u1, u2, u3, Ok_next]
    exact ⟨_, _, rfl⟩
  rintro e ⟨s1, s13, rfl⟩
  unfold m_law_12
  apply go_last
  exact go_ret (x := .bl true) rfl rfl
end K90
end Vm
end
theorem PySem.Challenge.cw_gatesread_k90_operations_on_diagrams_holds : PySem.Challenge.rw_gatesread_k90_operations_on_diagrams.Holds :=
  Vm.K90.gr_holds Vm.K90.law_pure
