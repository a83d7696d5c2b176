import PyProof.Rows.All
import Wide.All
import OpenK.AllK
import Wide.FinOn
import HandS.ForMost
import HandS.Wide
import HandS.IsInst
import HandS.Walk
import HandS.Exc
import HandS.ExcOwn
import HandS.TryOnly
import HandS.WordsExc
import HandS.HeadHook1
import PyProof.Rows.SeqMore
import HandS.Text
import HandS.WideBits
import PyProof.MaxThree
import HandS.Dict
import HandS.Defaults
import KE.KStateDown
import HandS.Ends
import HandS.More
import HandS.Head0
import HandS.Head1
import HandS.Head2
import HandS.HeadEnd
import HandS.HeadHook2
import HandS.HeadHook3
import HandS.HeadHook4
import PyProof.DictTable
import HandS.RaiseOp
import HandS.WrittenGet
import HandS.ExcIs
import HandS.Conv
import HandS.TryMany
import HandS.Star
import HandS.SortInts
import HandS.SetKeys
import HandS.Style
import HandS.DictComp
import PySem.Challenge.RW_gatesread_k55_star_against_chain
set_option Elab.async false
set_option linter.all false
set_option maxRecDepth 100000
set_option maxHeartbeats 0
/-! The value machine, plain part: values are trees, a def's slots hold values or lists of their own. -/
noncomputable section
namespace Vm
abbrev Str := PySem.Str
abbrev Key := Sum Int Str

/-- a value, whole: nothing in it changes any more -/
inductive Val where
  | non
  | bl (b : Bool)
  | int (i : Int)
  | str (s : Str)
  | tup (xs : List Val)
  | lst (xs : List Val)
  | dct (kvs : List (Key × Val))
  | dcT (kvs : List (List Key × Val))
  | ob (c : Str) (fs : List (Str × Val))
  deriving Inhabited

/-- a thing that a slot owns: what may change in place, with the values in it -/
inductive Tr where
  | v (x : Val)
  | l (ts : List Tr)
  | d (kvs : List (Key × Tr))
  | dT (kvs : List (List Key × Tr))
  | o (c : Str) (fs : List (Str × Tr))
  deriving Inhabited
mutual
def Tr.val : Tr → Val
  | .v x => x
  | .l ts => .lst (Tr.vals ts)
  | .d kvs => .dct (Tr.valsD kvs)
  | .dT kvs => .dcT (Tr.valsT kvs)
  | .o c fs => .ob c (Tr.valsO fs)
def Tr.vals : List Tr → List Val
  | [] => []
  | t :: ts => t.val :: Tr.vals ts
def Tr.valsD : List (Key × Tr) → List (Key × Val)
  | [] => []
  | (k, t) :: ts => (k, t.val) :: Tr.valsD ts
def Tr.valsT : List (List Key × Tr) → List (List Key × Val)
  | [] => []
  | (k, t) :: ts => (k, t.val) :: Tr.valsT ts
def Tr.valsO : List (Str × Tr) → List (Str × Val)
  | [] => []
  | (k, t) :: ts => (k, t.val) :: Tr.valsO ts
end

/-- a slot of a def -/
inductive Slot where
  | un
  | sh (x : Val)
  | oL (xs : List Val)
  | oD (kvs : List (Key × Val))
  | oT (t : Tr)
  | me (t : Tr)
  deriving Inhabited
abbrev Env := List Slot

/-- an exception: its class's name and its fields -/
structure Exn where
  cls : Str
  fs : List (Str × Val)

inductive Res (α : Type) where
  | ok (a : α)
  | exc (e : Exn)
  | bad
def Res.bind {α β : Type} : Res α → (α → Res β) → Res β
  | .ok a, f => f a
  | .exc e, _ => .exc e
  | .bad, _ => .bad
@[simp] theorem Res.bind_ok {α β : Type} (a : α) (f : α → Res β) : (Res.ok a).bind f = f a := rfl
@[simp] theorem Res.bind_exc {α β : Type} (e : Exn) (f : α → Res β) : (Res.exc e).bind f = .exc e := rfl
@[simp] theorem Res.bind_bad {α β : Type} (f : α → Res β) : (Res.bad).bind f = .bad := rfl
def Res.ofOpt {α : Type} : Option α → Res α
  | some a => .ok a
  | none => .bad
@[simp] theorem Res.ofOpt_some {α : Type} (a : α) : Res.ofOpt (some a) = .ok a := rfl
@[simp] theorem Res.ofOpt_none {α : Type} : Res.ofOpt (none : Option α) = .bad := rfl

/-- what a value that stays may be made of: not the lists that may still change -/
def Slot.hide : Slot → Slot
  | .sh x => .sh x
  | _ => .un
def hide (env : Env) : Env := env.map Slot.hide
abbrev EX := Env → Res Val
abbrev EB := Env → Res Bool
abbrev EL := Env → Res (List Val)

/-! ### values -/
def Val.isFlat : Val → Bool
  | .non => true
  | .bl _ => true
  | .int _ => true
  | .str _ => true
  | _ => false
/- no list, no dict within -/
mutual
def Val.noLst : Val → Bool
  | .tup xs => Val.noLsts xs
  | .lst _ => false
  | .dct _ => false
  | .dcT _ => false
  | .ob _ _ => false
  | .non => true
  | .bl _ => true
  | .int _ => true
  | .str _ => true
def Val.noLsts : List Val → Bool
  | [] => true
  | x :: xs => Val.noLst x && Val.noLsts xs
end
/- data: nothing but None, bools, intsOf, texts, lists, tuples; the depth -/
mutual
def Val.isData : Val → Bool
  | .tup xs => Val.isDatas xs
  | .lst xs => Val.isDatas xs
  | .dct _ => false
  | .dcT _ => false
  | .ob _ _ => false
  | .non => true
  | .bl _ => true
  | .int _ => true
  | .str x => x.cps.all (· < 0x110000)
def Val.isDatas : List Val → Bool
  | [] => true
  | x :: xs => Val.isData x && Val.isDatas xs
end
mutual
def Val.depth : Val → Nat
  | .tup xs => Val.depths xs + 1
  | .lst xs => Val.depths xs + 1
  | .dct _ => 0
  | .dcT _ => 0
  | .ob _ _ => 0
  | .non => 0
  | .bl _ => 0
  | .int _ => 0
  | .str _ => 0
def Val.depths : List Val → Nat
  | [] => 0
  | x :: xs => max (Val.depth x) (Val.depths xs)
end
def b2i (b : Bool) : Int := if b then 1 else 0
/- Python's == of data -/
mutual
def eqv : Val → Val → Bool
  | .non, .non => true
  | .bl a, .bl b => a == b
  | .bl a, .int j => b2i a == j
  | .int i, .bl b => i == b2i b
  | .int i, .int j => i == j
  | .str x, .str y => x == y
  | .lst xs, .lst ys => eqvs xs ys
  | .tup xs, .tup ys => eqvs xs ys
  | _, _ => false
def eqvs : List Val → List Val → Bool
  | [], [] => true
  | x :: xs, y :: ys => eqv x y && eqvs xs ys
  | _, _ => false
end
/-- None, bools, ints, texts, but not a bool beside an int -/
def scal2 : Val → Val → Bool
  | .bl _, .int _ => false
  | .int _, .bl _ => false
  | x, y => x.isFlat && y.isFlat
def eqR (x y : Val) : Res Bool := if scal2 x y then .ok (eqv x y) else if x.isData && decide (x.depth ≤ 64) && (y.isData && decide (y.depth ≤ 64)) then .ok (eqv x y) else .bad

/-! ### expressions -/
def eVar (i : Nat) : EX := fun env => match env[i]? with
  | some (.sh x) => .ok x
  | some (.oL xs) => .ok (.lst xs)
  | some (.oD kvs) => .ok (.dct kvs)
  | some (.oT t) => .ok t.val
  | some (.me t) => .ok t.val
  | _ => .bad
def eC (x : Val) : EX := fun _ => .ok x
def e1 (f : Val → Res Val) (a : EX) : EX := fun env => (a env).bind f
def e2 (f : Val → Val → Res Val) (a b : EX) : EX := fun env => (a env).bind fun x => (b env).bind fun y => f x y
/-- an argument list -/
def aNil : EL := fun _ => .ok []
def aCons (a : EX) (r : EL) : EL := fun env => (a env).bind fun x => (r env).bind fun xs => .ok (x :: xs)
def eArgs (f : List Val → Res Val) (a : EL) : EX := fun env => (a env).bind f

def vAdd : Val → Val → Res Val
  | .int i, .int j => .ok (.int (i + j))
  | .str x, .str y => if x.length + y.length ≤ 16777216 then .ok (.str (x ++ y)) else .bad
  | .lst xs, .lst ys => if xs.length + ys.length ≤ 16777216 then .ok (.lst (xs ++ ys)) else .bad
  | .tup xs, .tup ys => if xs.length + ys.length ≤ 16777216 ∧ xs.isEmpty = false then .ok (.tup (xs ++ ys)) else .bad
  | _, _ => .bad
def vIpAdd : Val → Val → Res Val
  | .int i, .int j => .ok (.int (i + j))
  | _, _ => .bad
def vSub : Val → Val → Res Val
  | .int i, .int j => .ok (.int (i - j))
  | _, _ => .bad
/-- p, nothing to run: the bounds of what the model's numbers may be -/
def big (p : Prop) : Bool := @decide p (Classical.propDecidable p)
theorem big_iff {p : Prop} : big p = true ↔ p := @decide_eq_true_iff p (Classical.propDecidable p)
def smallI (i : Int) : Bool := big (-4611686018427387904 ≤ i ∧ i < 4611686018427387904)
def mulOk (i j : Int) : Bool := big ((-18446744073709551616 < i ∧ i < 18446744073709551616) ∨ (-18446744073709551616 < j ∧ j < 18446744073709551616))
def divOk (j : Int) : Bool := big (0 < j ∧ j < 1267650600228229401496703205376)
def powOk (i j : Int) : Bool := big (0 ≤ j ∧ j ≤ 1000000 ∧ i.natAbs < 18446744073709551616)
def vMul : Val → Val → Res Val
  | .int i, .int j => if mulOk i j = true then .ok (.int (i * j)) else .bad
  | _, _ => .bad
/-- a list times an int -/
def vRep : Val → Val → Res Val
  | .lst xs, .int k => if smallI k = true ∧ xs.length * k.toNat ≤ 16777216 then .ok (.lst (List.replicate k.toNat xs).flatten) else .bad
  | _, _ => .bad
/-- x & 1 -/
def vAnd1 : Val → Val → Res Val
  | .int i, .int 1 => .ok (.int (i % 2))
  | _, _ => .bad
def vShl : Val → Val → Res Val
  | .int i, .int j => if powOk i j = true then .ok (.int (i * 2 ^ j.toNat)) else .bad
  | _, _ => .bad
def vShr : Val → Val → Res Val
  | .int i, .int j => if 0 ≤ j then .ok (.int (i / 2 ^ j.toNat)) else .bad
  | _, _ => .bad
def vDiv : Val → Val → Res Val
  | .int i, .int j => if divOk j = true then .ok (.int (i / j)) else .bad
  | _, _ => .bad
def vMod : Val → Val → Res Val
  | .int i, .int j => if 0 < j then .ok (.int (i % j)) else .bad
  | _, _ => .bad
def vPow : Val → Val → Res Val
  | .int i, .int j => if powOk i j = true then .ok (.int (i ^ j.toNat)) else .bad
  | _, _ => .bad
def vNeg : Val → Res Val
  | .int i => .ok (.int (-i))
  | _ => .bad
def vLt : Val → Val → Res Val
  | .int i, .int j => .ok (.bl (decide (i < j)))
  | _, _ => .bad
def vLe : Val → Val → Res Val
  | .int i, .int j => .ok (.bl (decide (i ≤ j)))
  | _, _ => .bad
def vGt : Val → Val → Res Val
  | .int i, .int j => .ok (.bl (decide (j < i)))
  | _, _ => .bad
def vGe : Val → Val → Res Val
  | .int i, .int j => .ok (.bl (decide (j ≤ i)))
  | _, _ => .bad
def vEq (x y : Val) : Res Val := (eqR x y).bind fun b => .ok (.bl b)
def vNe (x y : Val) : Res Val := (eqR x y).bind fun b => .ok (.bl (!b))
def inFlat (x : Val) (xs : List Val) : Bool := xs.any fun y => eqv y x
def vInS : Val → Val → Res Val
  | x, .lst xs => if x.isFlat && xs.all Val.isFlat then .ok (.bl (inFlat x xs)) else .bad
  | x, .tup xs => if x.isFlat && xs.all Val.isFlat then .ok (.bl (inFlat x xs)) else .bad
  | .str x, .str y => match x.cps.toList with
    | [c] => .ok (.bl (decide (c ∈ y.cps.toList)))
    | _ => .bad
  | _, _ => .bad
def rNot : Res Val → Res Val
  | .ok (.bl b) => .ok (.bl (!b))
  | .ok _ => .bad
  | .exc e => .exc e
  | .bad => .bad
def vNotInS (x y : Val) : Res Val := rNot (vInS x y)
/-! dicts by keys that are ints or texts -/
def keyOfV : Val → Option Key
  | .int i => some (.inl i)
  | .str x => some (.inr x)
  | _ => none
def kVal : Key → Val
  | .inl i => .int i
  | .inr x => .str x
def getV (kvs : List (Key × Val)) (k : Key) : Option Val := (kvs.find? fun kv => decide (kv.1 = k)).map (·.2)
def putV (kvs : List (Key × Val)) (k : Key) (v : Val) : List (Key × Val) := if (kvs.any fun kv => decide (kv.1 = k)) = true then kvs.map (fun kv => if kv.1 = k then (kv.1, v) else kv) else kvs ++ [(k, v)]
def mergeV (kvs more : List (Key × Val)) : List (Key × Val) := more.foldl (fun acc kv => putV acc kv.1 kv.2) kvs
def vInD (x : Val) (kvs : List (Key × Val)) : Res Val := match keyOfV x with
  | some k => .ok (.bl (getV kvs k).isSome)
  | none => .bad
def vIn (x : Val) : Val → Res Val
  | .dct kvs => vInD x kvs
  | y => vInS x y
def vNotIn (x y : Val) : Res Val := rNot (vIn x y)
def vIs : Val → Val → Res Val
  | .non, .non => .ok (.bl true)
  | _, .non => .ok (.bl false)
  | _, _ => .bad
def vIsNot : Val → Val → Res Val
  | .non, .non => .ok (.bl false)
  | _, .non => .ok (.bl true)
  | _, _ => .bad

/-- an index, from the end if it is negative -/
def ixNat (n : Nat) (i : Int) : Option Nat := if 0 ≤ i then (if i < n then some i.toNat else none) else if -(n : Int) ≤ i then some (i + n).toNat else none
def atI {α : Type} (xs : List α) (i : Int) : Option α := (ixNat xs.length i).bind fun k => xs[k]?
def vIxS : Val → Val → Res Val
  | .lst xs, .int i => Res.ofOpt (atI xs i)
  | .tup xs, .int i => Res.ofOpt (atI xs i)
  | .str z, .int i => if z.length ≤ 16777216 then Res.ofOpt ((atI z.cps.toList i).map fun c => .str ⟨#[c]⟩) else .bad
  | _, _ => .bad
def vIx : Val → Val → Res Val
  | .dct kvs, k => Res.ofOpt ((keyOfV k).bind (getV kvs))
  | x, k => vIxS x k
/-- the bounds of a slice -/
def cutAt (n : Nat) (d : Nat) : Option Int → Nat
  | none => d
  | some i => if i < 0 then (i + (n : Int)).toNat else min i.toNat n
def cut {α : Type} (xs : List α) (lo hi : Option Int) : List α := (xs.drop (cutAt xs.length 0 lo)).take (cutAt xs.length xs.length hi - cutAt xs.length 0 lo)
def partOf : Option EX → Env → Res (Option Int)
  | none, _ => .ok none
  | some a, env => (a env).bind fun
    | .int i => .ok (some i)
    | _ => .bad
def vCut : Val → Option Int → Option Int → Res Val
  | .lst xs, lo, hi => .ok (.lst (cut xs lo hi))
  | .str z, lo, hi => if z.length ≤ 16777216 then .ok (.str ⟨(cut z.cps.toList lo hi).toArray⟩) else .bad
  | .tup xs, lo, hi => if cutAt xs.length 0 lo = 0 ∧ cutAt xs.length xs.length hi = xs.length then .bad else .ok (.tup (cut xs lo hi))
  | _, _, _ => .bad
def eCut (a : EX) (lo hi : Option EX) : EX := fun env => (a env).bind fun x => (partOf lo env).bind fun l => (partOf hi env).bind fun h => vCut x l h

/-- truth -/
def truth : Val → Res Bool
  | .non => .ok false
  | .bl b => .ok b
  | .int i => .ok (i != 0)
  | .str z => if z.length ≤ 16777216 then .ok (z.length != 0) else .bad
  | .tup xs => .ok (!xs.isEmpty)
  | .lst xs => .ok (!xs.isEmpty)
  | .dct _ => .bad
  | .dcT _ => .bad
  | .ob _ _ => .bad
def bVal (a : EX) : EB := fun env => (a env).bind fun
  | .bl b => .ok b
  | _ => .bad
def bTruth (a : EX) : EB := fun env => (a env).bind truth
def bAnd (a b : EB) : EB := fun env => (a env).bind fun x => bif x then b env else .ok false
def bOr (a b : EB) : EB := fun env => (a env).bind fun x => bif x then .ok true else b env
def bNot (a : EB) : EB := fun env => (a env).bind fun x => .ok (!x)
def asBl : Val → Res Bool
  | .bl b => .ok b
  | _ => .bad
def eAnd (a b : EX) : EX := fun env => (a env).bind fun x => (asBl x).bind fun k => bif k then b env else .ok (.bl false)
def eOr (a b : EX) : EX := fun env => (a env).bind fun x => (asBl x).bind fun k => bif k then .ok (.bl true) else b env
def eNot (a : EX) : EX := fun env => (a env).bind fun x => (asBl x).bind fun k => .ok (.bl (!k))
def eIf (t : EB) (a b : EX) : EX := fun env => (t env).bind fun k => bif k then a env else b env
/-- a op b op' c -/
def eChain (f g : Val → Val → Res Val) (a b c : EX) : EX := fun env => (a env).bind fun x => (b env).bind fun y => (f x y).bind fun z => (asBl z).bind fun k => bif k then (c env).bind fun w => g y w else .ok (.bl false)

def vTup (xs : List Val) : Res Val := if xs.length ≤ 16777216 then .ok (.tup xs) else .bad
def vLst (xs : List Val) : Res Val := if xs.length ≤ 16777216 then .ok (.lst xs) else .bad

def vKGet (tab : List (Str × Val)) : Val → Res Val
  | .str z => Res.ofOpt (tab.lookup z)
  | _ => .bad
def vKIn (tab : List (Str × Val)) : Val → Res Val
  | .str z => .ok (.bl (tab.lookup z).isSome)
  | _ => .bad
def vKNi (tab : List (Str × Val)) : Val → Res Val
  | .str z => .ok (.bl (!(tab.lookup z).isSome))
  | _ => .bad

/-- the pairs: keys told, values made from the left -/
def DPairs : List (Key × EX) → Env → Res (List (Key × Val))
  | [], _ => .ok []
  | (k, a) :: r, env => (a env).bind fun x => (DPairs r env).bind fun ps => .ok ((k, x) :: ps)
def eDict (ps : List (Key × EX)) : EX := fun env => (DPairs ps env).bind fun kvs => if kvs.length ≤ 15 then .ok (.dct (mergeV [] kvs)) else .bad

/-- the same, keys made, too -/
def DPairsV : List (EX × EX) → Env → Res (List (Key × Val))
  | [], _ => .ok []
  | (k, a) :: r, env => (k env).bind fun q => (a env).bind fun x => (Res.ofOpt (keyOfV q)).bind fun q => (DPairsV r env).bind fun ps => .ok ((q, x) :: ps)
def eDictV (ps : List (EX × EX)) : EX := fun env => (DPairsV ps env).bind fun kvs => if kvs.length ≤ 15 then .ok (.dct (mergeV [] kvs)) else .bad
/-- d.get(k), d.get(k, z) -/
def getD (kvs : List (Key × Val)) (k z : Val) : Res Val := match keyOfV k with
  | some q => .ok ((getV kvs q).getD z)
  | none => .bad
def eGet1 (a b : EX) : EX := fun env => (a env).bind fun
  | .dct kvs => (b env).bind fun k => getD kvs k .non
  | _ => .bad
def eGet2 (a b c : EX) : EX := fun env => (a env).bind fun
  | .dct kvs => (b env).bind fun k => (c env).bind fun z => getD kvs k z
  | _ => .bad
/-- xs.index(x), flat items -/
def indexOf (x : Val) : List Val → Option Nat
  | [] => none
  | y :: ys => bif eqv y x then some 0 else (indexOf x ys).map (· + 1)
def vIndex (xs : List Val) (x : Val) : Res Val := if (x.isFlat && xs.all Val.isFlat) = true then (match indexOf x xs with
    | some j => .ok (.int (j : Nat))
    | none => .bad) else .bad
def eIndex (a b : EX) : EX := fun env => (a env).bind fun
  | .lst xs => (b env).bind fun x => vIndex xs x
  | _ => .bad
/-! ### built-in functions -/
def vLen : List Val → Res Val
  | [.lst xs] => .ok (.int xs.length)
  | [.tup xs] => .ok (.int xs.length)
  | [.str z] => if z.length ≤ 16777216 then .ok (.int z.length) else .bad
  | _ => .bad
def digitOf (z : Str) : Option Int := match z.cps.toList with
  | [c] => if 48 ≤ c ∧ c ≤ 57 then some ((c : Int) - 48) else none
  | _ => none
def vInt : List Val → Res Val
  | [.str z] => (Res.ofOpt (digitOf z)).bind fun i => .ok (.int i)
  | [.int i] => .ok (.int i)
  | [.bl b] => .ok (.int (b2i b))
  | _ => .bad
inductive Ty where
  | int | bool | str | list | tuple | dict
  deriving DecidableEq
def Val.ty : Val → Option Ty
  | .non => none
  | .bl _ => some .bool
  | .int _ => some .int
  | .str _ => some .str
  | .tup _ => some .tuple
  | .lst _ => some .list
  | .dct _ => some .dict
  | .dcT _ => some .dict
  | .ob _ _ => none
def Ty.sub (t : Option Ty) (u : Ty) : Bool := t == some u || (t == some .bool && u == .int)
def Val.isOb : Val → Bool
  | .ob _ _ => true
  | _ => false
def vIsi (u : Ty) (x : Val) : Res Val := if x.isOb = true then .bad else .ok (.bl (Ty.sub x.ty u))
/-- a list's intsOf, bools, texts -/
def intsOf : List Val → Option (List Int)
  | [] => some []
  | .int i :: r => (intsOf r).map (i :: ·)
  | _ :: _ => none
def blsOf : List Val → Option (List Bool)
  | [] => some []
  | .bl i :: r => (blsOf r).map (i :: ·)
  | _ :: _ => none
def strsOf : List Val → Option (List Str)
  | [] => some []
  | .str i :: r => (strsOf r).map (i :: ·)
  | _ :: _ => none
def vSum : List Val → Res Val
  | [.lst xs] => (Res.ofOpt (intsOf xs)).bind fun ns => .ok (.int ns.sum)
  | _ => .bad
def maxL : Int → List Int → Int
  | m, [] => m
  | m, x :: r => maxL (if x > m then x else m) r
def minL : Int → List Int → Int
  | m, [] => m
  | m, x :: r => minL (if x < m then x else m) r
def vMax : List Val → Res Val
  | [.int i, .int j] => .ok (.int (if j > i then j else i))
  | [.int i, .int j, .int k] => .ok (.int (if k > (if j > i then j else i) then k else (if j > i then j else i)))
  | [.lst xs] => (Res.ofOpt (intsOf xs)).bind fun
    | [] => .bad
    | n :: ns => .ok (.int (maxL n ns))
  | _ => .bad
def vMin : List Val → Res Val
  | [.int i, .int j] => .ok (.int (if j < i then j else i))
  | [.lst xs] => (Res.ofOpt (intsOf xs)).bind fun
    | [] => .bad
    | n :: ns => .ok (.int (minL n ns))
  | _ => .bad
def vAny : List Val → Res Val
  | [.lst xs] => (Res.ofOpt (blsOf xs)).bind fun bs => .ok (.bl (bs.any id))
  | _ => .bad
def vAll : List Val → Res Val
  | [.lst xs] => (Res.ofOpt (blsOf xs)).bind fun bs => .ok (.bl (bs.all id))
  | _ => .bad
def vListOf : List Val → Res Val
  | [.lst xs] => .ok (.lst xs)
  | [.tup xs] => .ok (.lst xs)
  | _ => .bad
def vTupOf : List Val → Res Val
  | [.lst xs] => .ok (.tup xs)
  | [.tup xs] => .ok (.tup xs)
  | _ => .bad

/-! ### what is walked: the items, told ahead -/
abbrev EI := Env → Res (List Val)
def itemsOf : Val → Res (List Val)
  | .lst xs => .ok xs
  | .tup xs => .ok xs
  | .str z => .ok (z.cps.toList.map fun c => .str ⟨#[c]⟩)
  | _ => .bad
def iSeq (a : EX) : EI := fun env => (a env).bind itemsOf
def rangeL (lo : Int) (n : Nat) : List Val := (List.range n).map fun (i : Nat) => Val.int (lo + (i : Int))
def iRange1 (a : EX) : EI := fun env => (a env).bind fun
  | .int j => if smallI j then .ok (rangeL 0 j.toNat) else .bad
  | _ => .bad
def iRange2 (a b : EX) : EI := fun env => (a env).bind fun x => (b env).bind fun y => match x, y with
  | .int i, .int j => if smallI i && smallI j then .ok (rangeL i (j - i).toNat) else .bad
  | _, _ => .bad
/-- list(range(..)), tuple(range(..)) -/
def rangeV (mk : List Val → Val) (i j : Int) : Res Val := if smallI i && smallI j && big ((j - i).toNat ≤ 16777216) then .ok (mk (rangeL i (j - i).toNat)) else .bad
def eRange1 (mk : List Val → Val) (a : EX) : EX := fun env => (a env).bind fun
  | .int j => rangeV mk 0 j
  | _ => .bad
def eRange2 (mk : List Val → Val) (a b : EX) : EX := fun env => (a env).bind fun x => (b env).bind fun y => match x, y with
  | .int i, .int j => rangeV mk i j
  | _, _ => .bad
def enumL : Nat → List Val → List Val
  | _, [] => []
  | n, x :: r => .tup [.int (n : Int), x] :: enumL (n + 1) r
def zipL : List Val → List Val → List Val
  | x :: r, y :: s => .tup [x, y] :: zipL r s
  | _, _ => []

def iEnumV (a : EX) : EI := fun env => (a env).bind fun
  | .lst xs => .ok (enumL 0 xs)
  | _ => .bad
def iZipV (a b : EX) : EI := fun env => (a env).bind fun x => (b env).bind fun y => match x, y with
  | .lst xs, .lst ys => .ok (zipL xs ys)
  | _, _ => .bad

/-! ### comprehensions: own the comprehension's own slots, put how an item is bound -/
abbrev Put := Val → Env → Res Env
def pName (i : Nat) : Put := fun x env => if i < env.length then .ok (env.set i (.sh x)) else .bad
def putAll : List Nat → List Val → Env → Res Env
  | [], [], env => .ok env
  | i :: is, x :: xs, env => (pName i x env).bind fun e => putAll is xs e
  | _, _, _ => .bad
def pTup (is : List Nat) : Put := fun x env => match x with
  | .tup xs => putAll is xs env
  | _ => .bad
def pTupL (is : List Nat) : Put := fun x env => match x with
  | .lst xs => putAll is xs env
  | _ => .bad
def wipeE (env : Env) : List Nat → Env
  | [] => env
  | v :: vs => (wipeE env vs).set v .un
/-- nothing is raised -/
def Res.nx {α : Type} : Res α → Res α
  | .exc _ => .bad
  | r => r
@[simp] theorem Res.nx_ok {α : Type} (a : α) : (Res.ok a).nx = .ok a := rfl
def compL (put : Put) (tt : EB) (el : EX) (env : Env) : List Val → Res (List Val)
  | [] => .ok []
  | x :: xs => (put x env).nx.bind fun e => (tt e).nx.bind fun b => bif b then (el e).nx.bind fun y => (compL put tt el env xs).bind fun r => .ok (y :: r) else compL put tt el env xs
def bYes : EB := fun _ => .ok true
def eComp (it : EI) (own : List Nat) (put : Put) (tt : EB) (el : EX) : EX := fun env => (it env).bind fun xs => if xs.length ≤ 16777216 then (compL put tt el (wipeE env own) xs).bind fun r => .ok (.lst r) else .bad

/-! ### statements -/
inductive Flow where
  | next (e : Env)
  | brk (e : Env)
  | cont (e : Env)
  | ret (x : Val) (e : Env)
  | exc (x : Exn) (e : Env)
  | bad
abbrev ST := Env → Flow
def Flow.bind : Flow → (Env → Flow) → Flow
  | .next e, f => f e
  | r, _ => r
def Res.flow {α : Type} : Res α → Env → (α → Flow) → Flow
  | .ok a, _, f => f a
  | .exc x, e, _ => .exc x e
  | .bad, _, _ => .bad
@[simp] theorem Flow.bind_next (e : Env) (f : Env → Flow) : (Flow.next e).bind f = f e := rfl
@[simp] theorem Flow.bind_ret (x : Val) (e : Env) (f : Env → Flow) : (Flow.ret x e).bind f = .ret x e := rfl
@[simp] theorem Flow.bind_bad (f : Env → Flow) : Flow.bad.bind f = .bad := rfl
@[simp] theorem Flow.bind_brk (e : Env) (f : Env → Flow) : (Flow.brk e).bind f = .brk e := rfl
@[simp] theorem Flow.bind_cont (e : Env) (f : Env → Flow) : (Flow.cont e).bind f = .cont e := rfl
@[simp] theorem Flow.bind_exc (x : Exn) (e : Env) (f : Env → Flow) : (Flow.exc x e).bind f = .exc x e := rfl
@[simp] theorem Res.flow_ok {α : Type} (a : α) (e : Env) (f : α → Flow) : (Res.ok a).flow e f = f a := rfl
@[simp] theorem Res.flow_exc {α : Type} (x : Exn) (e : Env) (f : α → Flow) : (Res.exc x : Res α).flow e f = .exc x e := rfl
@[simp] theorem Res.flow_bad {α : Type} (e : Env) (f : α → Flow) : (Res.bad : Res α).flow e f = .bad := rfl

def sNext : ST := .next
def sSeq (a b : ST) : ST := fun env => (a env).bind b
def sBreak : ST := .brk
def sCont : ST := .cont
/-- x = e, nothing in e that may still change -/
def sSet (i : Nat) (a : EX) : ST := fun env => (a (hide env)).flow env fun x => if i < env.length then .next (env.set i (.sh x)) else .bad
/-- x = e, no list in the value -/
def sSetN (i : Nat) (a : EX) : ST := fun env => (a env).flow env fun x => if i < env.length ∧ x.noLst = true then .next (env.set i (.sh x)) else .bad
def sPut (p : Put) (a : EX) : ST := fun env => (a (hide env)).flow env fun x => (p x env).flow env .next
/-- a new list of the slot's own -/
def sOwn (i : Nat) (a : EX) : ST := fun env => (a (hide env)).flow env fun
  | .lst xs => if i < env.length then .next (env.set i (.oL xs)) else .bad
  | _ => .bad
def sOwnN (i : Nat) (a : EX) : ST := fun env => (a env).flow env fun
  | .lst xs => if i < env.length ∧ Val.noLsts xs = true then .next (env.set i (.oL xs)) else .bad
  | _ => .bad
/-- a new dict of the slot's own -/
def sOwnD (i : Nat) (a : EX) : ST := fun env => (a (hide env)).flow env fun
  | .dct xs => if i < env.length then .next (env.set i (.oD xs)) else .bad
  | _ => .bad
def sFreezeD (i : Nat) : ST := fun env => match env[i]? with
  | some (.oD xs) => .next (env.set i (.sh (.dct xs)))
  | _ => .bad
/-- x[k] = e in a dict of the slot's own -/
def itemPutD (i : Nat) (env : Env) (x k : Val) : Flow := match env[i]?, keyOfV k with
  | some (.oD xs), some q => if xs.length < 16777216 then .next (env.set i (.oD (putV xs q x))) else .bad
  | _, _ => .bad
def sOnD (i : Nat) (m : ST) : ST := fun env => match env[i]? with
  | some (.oD _) => m env
  | _ => .bad
def sPutD (i : Nat) (b a : EX) : ST := fun env => (a (hide env)).flow env fun x => (b env).flow env fun k => itemPutD i env x k
def sPutDN (i : Nat) (b a : EX) : ST := fun env => (a env).flow env fun x => if x.noLst = true then (b env).flow env fun k => itemPutD i env x k else .bad
/-- from here on the slot's list stays as it is -/
def sFreeze (i : Nat) : ST := fun env => match env[i]? with
  | some (.oL xs) => .next (env.set i (.sh (.lst xs)))
  | _ => .bad
def sForget (is : List Nat) : ST := fun env => .next (wipeE env is)
def sDrop (a : EX) : ST := fun env => (a env).flow env fun _ => .next env
def sAppend (i : Nat) (a : EX) : ST := fun env => match env[i]? with
  | some (.oL xs) => (a (hide env)).flow env fun x => if xs.length < 16777216 then .next (env.set i (.oL (xs ++ [x]))) else .bad
  | _ => .bad
def sAppendN (i : Nat) (a : EX) : ST := fun env => match env[i]? with
  | some (.oL xs) => (a env).flow env fun x => if xs.length < 16777216 ∧ x.noLst = true then .next (env.set i (.oL (xs ++ [x]))) else .bad
  | _ => .bad
/-- x[k] = e in a list of the slot's own; e: nothing that may still change | e: no list in it -/
def itemPut (i : Nat) (env : Env) (x k : Val) : Flow := match env[i]?, k with
  | some (.oL xs), .int k => (match ixNat xs.length k with
    | some j => .next (env.set i (.oL (xs.set j x)))
    | none => .bad)
  | _, _ => .bad
def sItem (i : Nat) (b a : EX) : ST := fun env => (a (hide env)).flow env fun x => (b env).flow env fun k => itemPut i env x k
def sItemN (i : Nat) (b a : EX) : ST := fun env => (a env).flow env fun x => if x.noLst = true then (b env).flow env fun k => itemPut i env x k else .bad
/-- the slot has a list of its own -/
def sOn (i : Nat) (m : ST) : ST := fun env => match env[i]? with
  | some (.oL _) => m env
  | _ => .bad
/-- xs.extend(e), xs.reverse(), xs.clear() -/
def sExtend (i : Nat) (a : EX) : ST := fun env => match env[i]? with
  | some (.oL xs) => (a (hide env)).flow env fun
    | .lst ys => if xs.length + ys.length ≤ 16777216 then .next (env.set i (.oL (xs ++ ys))) else .bad
    | _ => .bad
  | _ => .bad
def sReverse (i : Nat) : ST := fun env => match env[i]? with
  | some (.oL xs) => .next (env.set i (.oL xs.reverse))
  | _ => .bad
def sClear (i : Nat) : ST := fun env => match env[i]? with
  | some (.oL _) => .next (env.set i (.oL []))
  | _ => .bad
/-- xs.pop(), the item into the slot j | dropped -/
def sPopTo (i j : Nat) : ST := fun env => match env[i]? with
  | some (.oL xs) => (match xs[xs.length - 1]? with
    | some x => if j < env.length ∧ i ≠ j then .next ((env.set i (.oL xs.dropLast)).set j (.sh x)) else .bad
    | none => .bad)
  | _ => .bad
def sPopDrop (i : Nat) : ST := fun env => match env[i]? with
  | some (.oL xs) => (match xs[xs.length - 1]? with
    | some _ => .next (env.set i (.oL xs.dropLast))
    | none => .bad)
  | _ => .bad
/-- y = xs.pop(k); zs.append(xs.pop(k)) -/
def popAt (i : Nat) (env : Env) (k : Val) (f : Val → List Val → Flow) : Flow := match env[i]?, k with
  | some (.oL xs), .int k => if smallI k = true then (match ixNat xs.length k with
    | some m => (match xs[m]? with
      | some x => f x (xs.eraseIdx m)
      | none => .bad)
    | none => .bad) else .bad
  | _, _ => .bad
def sPopAtTo (i j : Nat) (b : EX) : ST := fun env => match env[i]? with
  | some (.oL _) => (b env).flow env fun k => popAt i env k fun x r => if j < env.length ∧ i ≠ j then .next ((env.set i (.oL r)).set j (.sh x)) else .bad
  | _ => .bad
def sAppPop (i j : Nat) (b : EX) : ST := fun env => match env[i]?, env[j]? with
  | some (.oL ys), some (.oL _) => (b env).flow env fun k => popAt j env k fun x r => if i ≠ j ∧ ys.length < 16777216 then .next ((env.set j (.oL r)).set i (.oL (ys ++ [x]))) else .bad
  | _, _ => .bad
/-- xs.insert(k, e) -/
def insL (xs : List Val) (k : Nat) (x : Val) : List Val := xs.take k ++ [x] ++ xs.drop k
def sAug (f : Val → Val → Res Val) (i : Nat) (a : EX) : ST := fun env => match env[i]? with
  | some (.sh x) => (a env).flow env fun y => (f x y).flow env fun z => if z.noLst = true then .next (env.set i (.sh z)) else .bad
  | _ => .bad
def sIf (t : EB) (a b : ST) : ST := fun env => (t env).flow env fun k => bif k then a env else b env
def sRet (a : EX) : ST := fun env => (a env).flow env fun x => .ret x env
def sRetN : ST := fun env => .ret .non env
def forL (put : Put) (body : ST) : List Val → Env → Flow
  | [], env => .next env
  | x :: xs, env => (put x env).nx.flow env fun e => match body e with
    | .next e' => forL put body xs e'
    | .cont e' => forL put body xs e'
    | .brk e' => .next e'
    | .ret v e' => .ret v e'
    | .exc q e' => .exc q e'
    | .bad => .bad
def sFor (it : EI) (put : Put) (body : ST) : ST := fun env => (it (hide env)).flow env fun xs => forL put body xs env
/-- at most n turns -/
def whileL (t : EB) (body : ST) : Nat → Env → Flow
  | 0, _ => .bad
  | n + 1, env => (t env).flow env fun k => bif k then (match body env with
    | .next e' => whileL t body n e'
    | .cont e' => whileL t body n e'
    | .brk e' => .next e'
    | .ret v e' => .ret v e'
    | .exc q e' => .exc q e'
    | .bad => .bad) else .next env
def sWhile (n : Nat) (t : EB) (body : ST) : ST := fun env => whileL t body n env

/-! ### exceptions -/
def sRaise (q : Exn) : ST := fun env => .exc q env
/-- nothing is raised -/
def Flow.calm : Flow → Flow
  | .exc _ _ => .bad
  | r => r
/-- behind an except suite: its name is gone -/
def Flow.gone (i : Nat) : Flow → Flow
  | .next e => .next (e.set i .un)
  | .brk e => .brk (e.set i .un)
  | .cont e => .cont (e.set i .un)
  | .ret x e => .ret x (e.set i .un)
  | .exc _ _ => .bad
  | .bad => .bad
/-- try: body; except c: suite; tab says which classes c meets -/
def sTry (tab : List (Str × Bool)) (body : ST) (su : Exn → ST) : ST := fun env => match body env with
  | .exc q e => (match tab.lookup q.cls with
    | some true => (su q e).calm
    | some false => .exc q e
    | none => .bad)
  | r => r
def sTryAs (i : Nat) (tab : List (Str × Bool)) (body : ST) (su : Exn → ST) : ST := fun env => match body env with
  | .exc q e => (match tab.lookup q.cls with
    | some true => if i < e.length then (su q (e.set i .un)).gone i else .bad
    | some false => .exc q e
    | none => .bad)
  | r => r
/-- a suite for exceptions without fields -/
def suE (su : Exn → ST) : Exn → ST := fun q env => if q.fs.isEmpty then su q env else .bad
/-- isinstance(e, c), e what the suite holds -/
def eIsE (tab : List (Str × Bool)) (q : Exn) : EX := fun _ => match tab.lookup q.cls with
  | some b => .ok (.bl b)
  | none => .bad

/-! ### defs -/
inductive DR where
  | ret (x : Val)
  | exc (e : Exn)
  | bad
abbrev Fn := List Val → DR
def startE (n : Nat) (xs : List Val) : Env := xs.map Slot.sh ++ List.replicate (n - xs.length) Slot.un
/-- a def of k parameters and n slots in all -/
def defn (k n : Nat) (body : ST) : Fn := fun xs => if xs.length = k then (match body (startE n xs) with
  | .next _ => .ret .non
  | .ret x _ => .ret x
  | .exc e _ => .exc e
  | _ => .bad) else .bad
def DR.res : DR → Res Val
  | .ret x => .ok x
  | .exc e => .exc e
  | .bad => .bad
def eCall (f : Fn) (a : EL) : EX := fun env => (a env).bind fun xs => (f xs).res
end Vm
end

/-! The value machine over HandS: what stands for what. -/
namespace Vm
open PySem L2

/-! ### heaps -/
abbrev Sub (H H' : Hp) : Prop := Same H H'
/-- from N within H to N' within H': only new things -/
structure Gr (N H N' H' : Hp) : Prop where
  hh : Sub H H'
  nn : Sub N N'
  nh : Sub N' H'
  nw : ∀ a, N' a ≠ none → N a ≠ none ∨ H a = none
theorem Gr.refl {N H : Hp} (e : Sub N H) : Gr N H N H := ⟨Same.refl _, Same.refl _, e, fun _ h => .inl h⟩
theorem Gr.trans {N H N1 H1 N2 H2 : Hp} (a : Gr N H N1 H1) (b : Gr N1 H1 N2 H2) : Gr N H N2 H2 :=
  ⟨a.hh.trans b.hh, a.nn.trans b.nn, b.nh, fun x h => by
    rcases b.nw x h with q | q
    · exact a.nw x q
    · exact .inr (a.hh.free q)⟩
theorem Gr.new {N H : Hp} {p : Addr} {o : HO} (e : Sub N H) (h : H p = none) : Gr N H (upd N p o) (upd H p o) := by
  refine ⟨fun b u q => by rw [upd_ne (ne_of_none q h)]; exact q, fun b u q => by rw [upd_ne (ne_of_none (e b u q) h)]; exact q, fun b u q => ?_, fun b q => ?_⟩
  · by_cases hb : b = p
    · subst hb; rw [upd_same] at q ⊢; exact q
    · rw [upd_ne hb] at q ⊢; exact e b u q
  · by_cases hb : b = p
    · subst hb; exact .inr h
    · rw [upd_ne hb] at q; exact .inl q

theorem sq_mono {K : PySem.W.Frag} {H H' : Hp} {a : Addr} {xs : List V} (e : Sub H H') (h : SqL K H a xs) : SqL K H' a xs := e.seq h
theorem st_mono {K : PySem.W.Frag} {H H' : Hp} {a : Addr} {xs : List V} (e : Sub H H') (h : SqT K H a xs) : SqT K H' a xs := by
  rcases h with (h | ⟨o, h⟩) | h
  · exact .inl (.inl (e _ _ h))
  · exact .inl (.inr ⟨o, e _ _ h⟩)
  · exact .inr h

/-! ### values -/
/-- a dict that may be read -/
def SqD (H : Hp) (a : Addr) (kvs : List (L2.Key × V)) : Prop := L2.Rd H a (.dK kvs)
theorem SqD.mono {H H' : Hp} {a : Addr} {kvs : List (L2.Key × V)} (e : ∀ b o, H b = some o → H' b = some o) (h : SqD H a kvs) : SqD H' a kvs := Or.imp (e _ _) (fun ⟨o, q⟩ => ⟨o, e _ _ q⟩) h
theorem SqD.get {H : Hp} {a : Addr} {kvs : List (L2.Key × V)} {k : L2.Key} (h : SqD H a kvs) : DGet H a (L2.kV k) (L2.valV kvs k) := .inl ⟨kvs, k, h, rfl, rfl⟩
mutual
inductive RV (K : PySem.W.Frag) (N : Hp) : V → Val → Prop
  | non : RV K N .non .non
  | bl (b : Bool) : RV K N (.bl b) (.bl b)
  | int (i : Int) : RV K N (.int i) (.int i)
  | str (x : Str) : RV K N (.str x) (.str x)
  | tup {a : Addr} {vs : List V} {xs : List Val} : SqT K N a vs → RVs K N vs xs → RV K N (.ref a) (.tup xs)
  | lst {a : Addr} {vs : List V} {xs : List Val} : SqL K N a vs → RVs K N vs xs → RV K N (.ref a) (.lst xs)
  | dct {a : Addr} {kvs : List (L2.Key × V)} {ys : List (Key × Val)} : SqD N a kvs → RKs K N kvs ys → RV K N (.ref a) (.dct ys)
  | dcT {a : Addr} {kvs : List (List L2.Key × V)} {ys : List (List Key × Val)} : N a = some (.dT kvs) → RTs K N kvs ys → RV K N (.ref a) (.dcT ys)
  | ob {a dx : Addr} {c : Str} {fs : List (Str × V)} {ys : List (Str × Val)} : N a = some (.ins (He.ga K c) dx fs) → RFs K N fs ys → RV K N (.ref a) (.ob c ys)
inductive RVs (K : PySem.W.Frag) (N : Hp) : List V → List Val → Prop
  | nil : RVs K N [] []
  | cons {v : V} {vs : List V} {x : Val} {xs : List Val} : RV K N v x → RVs K N vs xs → RVs K N (v :: vs) (x :: xs)
inductive RKs (K : PySem.W.Frag) (N : Hp) : List (L2.Key × V) → List (Key × Val) → Prop
  | nil : RKs K N [] []
  | cons {k : Key} {v : V} {vs : List (L2.Key × V)} {x : Val} {xs : List (Key × Val)} : RV K N v x → RKs K N vs xs → RKs K N ((k, v) :: vs) ((k, x) :: xs)
inductive RTs (K : PySem.W.Frag) (N : Hp) : List (List L2.Key × V) → List (List Key × Val) → Prop
  | nil : RTs K N [] []
  | cons {k : List Key} {v : V} {vs : List (List L2.Key × V)} {x : Val} {xs : List (List Key × Val)} : RV K N v x → RTs K N vs xs → RTs K N ((k, v) :: vs) ((k, x) :: xs)
inductive RFs (K : PySem.W.Frag) (N : Hp) : List (Str × V) → List (Str × Val) → Prop
  | nil : RFs K N [] []
  | cons {k : Str} {v : V} {vs : List (Str × V)} {x : Val} {xs : List (Str × Val)} : RV K N v x → RFs K N vs xs → RFs K N ((k, v) :: vs) ((k, x) :: xs)
end
section
variable {K : PySem.W.Frag} {N N' : Hp}
mutual
theorem RV.mono (e : Sub N N') : ∀ (x : Val) {v : V}, RV K N v x → RV K N' v x
  | .non, _, .non => .non
  | .bl _, _, .bl b => .bl b
  | .int _, _, .int i => .int i
  | .str _, _, .str x => .str x
  | .tup xs, _, .tup h r => .tup (st_mono e h) (RVs.mono e xs r)
  | .lst xs, _, .lst h r => .lst (sq_mono e h) (RVs.mono e xs r)
  | .dct xs, _, .dct h r => .dct (h.mono e) (RKs.mono e xs r)
  | .dcT xs, _, .dcT h r => .dcT (e _ _ h) (RTs.mono e xs r)
  | .ob c xs, _, .ob h r => .ob (e _ _ h) (RFs.mono e xs r)
theorem RVs.mono (e : Sub N N') : ∀ (xs : List Val) {vs : List V}, RVs K N vs xs → RVs K N' vs xs
  | [], _, .nil => .nil
  | x :: xs, _, .cons h r => .cons (RV.mono e x h) (RVs.mono e xs r)
theorem RKs.mono (e : Sub N N') : ∀ (xs : List (Key × Val)) {vs : List (L2.Key × V)}, RKs K N vs xs → RKs K N' vs xs
  | [], _, .nil => .nil
  | (_, x) :: xs, _, .cons h r => .cons (RV.mono e x h) (RKs.mono e xs r)
theorem RTs.mono (e : Sub N N') : ∀ (xs : List (List Key × Val)) {vs : List (List L2.Key × V)}, RTs K N vs xs → RTs K N' vs xs
  | [], _, .nil => .nil
  | (_, x) :: xs, _, .cons h r => .cons (RV.mono e x h) (RTs.mono e xs r)
theorem RFs.mono (e : Sub N N') : ∀ (xs : List (Str × Val)) {vs : List (Str × V)}, RFs K N vs xs → RFs K N' vs xs
  | [], _, .nil => .nil
  | (_, x) :: xs, _, .cons h r => .cons (RV.mono e x h) (RFs.mono e xs r)
end
theorem RVs.length : ∀ {vs : List V} {xs : List Val}, RVs K N vs xs → vs.length = xs.length
  | _, _, .nil => rfl
  | _, _, .cons _ r => congrArg (· + 1) r.length
theorem RVs.append : ∀ {vs ws : List V} {xs ys : List Val}, RVs K N vs xs → RVs K N ws ys → RVs K N (vs ++ ws) (xs ++ ys)
  | _, _, _, _, .nil, s => s
  | _, _, _, _, .cons h r, s => .cons h (r.append s)
theorem RVs.get : ∀ {vs : List V} {xs : List Val} {i : Nat} {x : Val}, RVs K N vs xs → xs[i]? = some x → ∃ v, vs[i]? = some v ∧ RV K N v x
  | _, _, _, _, .nil, e => by simp at e
  | _, _, 0, _, .cons h _, e => by simp at e; subst e; exact ⟨_, rfl, h⟩
  | _, _, i + 1, x, .cons _ r, e => by
    obtain ⟨v, h1, h2⟩ := r.get (i := i) (x := x) (by simpa using e)
    exact ⟨v, by simpa using h1, h2⟩
theorem RVs.getV : ∀ {vs : List V} {xs : List Val} {i : Nat} {v : V}, RVs K N vs xs → vs[i]? = some v → ∃ x, xs[i]? = some x ∧ RV K N v x
  | _, _, _, _, .nil, e => by simp at e
  | _, _, 0, _, .cons h _, e => by simp at e; subst e; exact ⟨_, rfl, h⟩
  | _, _, i + 1, x, .cons _ r, e => by
    obtain ⟨v, h1, h2⟩ := r.getV (i := i) (v := x) (by simpa using e)
    exact ⟨v, by simpa using h1, h2⟩
theorem RVs.take : ∀ {vs : List V} {xs : List Val} (n : Nat), RVs K N vs xs → RVs K N (vs.take n) (xs.take n)
  | _, _, 0, _ => .nil
  | _, _, _ + 1, .nil => .nil
  | _, _, n + 1, .cons h r => .cons h (r.take n)
theorem RVs.drop : ∀ {vs : List V} {xs : List Val} (n : Nat), RVs K N vs xs → RVs K N (vs.drop n) (xs.drop n)
  | _, _, 0, r => r
  | _, _, _ + 1, .nil => .nil
  | _, _, n + 1, .cons _ r => r.drop n
theorem RVs.empty {vs : List V} {xs : List Val} (r : RVs K N vs xs) : vs.isEmpty = xs.isEmpty := by cases r <;> rfl

/-- flat values -/
def toV : Val → V
  | .bl b => .bl b
  | .int i => .int i
  | .str x => .str x
  | _ => .non
theorem RV.flat {v : V} {x : Val} (r : RV K N v x) (h : x.isFlat = true) : v = toV x ∧ flatV v = true := by
  cases r <;> first
    | exact ⟨rfl, rfl⟩
    | exact absurd h (by simp [Val.isFlat])
theorem RVs.flats : ∀ {vs : List V} {xs : List Val}, RVs K N vs xs → xs.all Val.isFlat = true → vs = xs.map toV ∧ vs.all flatV = true
  | _, _, .nil, _ => ⟨rfl, rfl⟩
  | _, _, .cons h r, e => by
    rw [List.all_cons, Bool.and_eq_true] at e
    obtain ⟨h1, h2⟩ := h.flat e.1
    obtain ⟨h3, h4⟩ := r.flats e.2
    exact ⟨by rw [List.map_cons, ← h1, ← h3], by rw [List.all_cons, h2, h4]; rfl⟩
theorem eqV_of {x y : Val} (hx : x.isFlat = true) (hy : y.isFlat = true) : eqV (toV x) (toV y) = eqv x y := by
  cases x <;> cases y <;> first
    | rfl
    | (simp [Val.isFlat] at hx; done)
    | (simp [Val.isFlat] at hy; done)
    | (simp [toV, eqV, eqv, b2i]; done)
theorem inV_of {x : Val} {xs : List Val} (hx : x.isFlat = true) (hs : xs.all Val.isFlat = true) : inV (toV x) (xs.map toV) = inFlat x xs := by
  unfold inV inFlat
  rw [List.any_map]
  induction xs with
  | nil => rfl
  | cons y ys ih =>
    rw [List.all_cons, Bool.and_eq_true] at hs
    rw [List.any_cons, List.any_cons, ih hs.2]
    congr 1
    exact eqV_of hs.1 hx
/-! data -/
mutual
def toD : Val → PyData
  | .non => .none
  | .bl b => .bool b
  | .int i => .int i
  | .str x => .str x
  | .tup xs => .tuple (toDs xs)
  | .lst xs => .list (toDs xs)
  | .dct _ => .none
  | .dcT _ => .none
  | .ob _ _ => .none
def toDs : List Val → List PyData
  | [] => []
  | x :: xs => toD x :: toDs xs
end
mutual
theorem eqv_toD : ∀ (x y : Val), x.isData = true → y.isData = true → PyData.eqv (toD x) (toD y) = eqv x y
  | .non, y, _, hy => by cases y <;> first | rfl | (simp [Val.isData] at hy; done) | (simp [toD, PyData.eqv, eqv]; done)
  | .bl b, y, _, hy => by cases y <;> first | rfl | (simp [Val.isData] at hy; done) | (simp [toD, PyData.eqv, eqv, b2i]; done)
  | .int b, y, _, hy => by cases y <;> first | rfl | (simp [Val.isData] at hy; done) | (simp [toD, PyData.eqv, eqv, b2i]; done)
  | .str b, y, _, hy => by cases y <;> first | rfl | (simp [toD, PyData.eqv, eqv]; done) | (simp [Val.isData] at hy; done)
  | .tup xs, y, hx, hy => by
    cases y with
    | tup ys =>
      simp only [toD, PyData.eqv, eqv]
      exact eqvs_toDs xs ys hx hy
    | dct _ => simp [Val.isData] at hy
    | dcT _ => simp [Val.isData] at hy
    | ob _ _ => simp [Val.isData] at hy
    | _ => simp [toD, PyData.eqv, eqv]
  | .lst xs, y, hx, hy => by
    cases y with
    | lst ys =>
      simp only [toD, PyData.eqv, eqv]
      exact eqvs_toDs xs ys hx hy
    | dct _ => simp [Val.isData] at hy
    | dcT _ => simp [Val.isData] at hy
    | ob _ _ => simp [Val.isData] at hy
    | _ => simp [toD, PyData.eqv, eqv]
  | .dct _, _, hx, _ => by simp [Val.isData] at hx
  | .dcT _, _, hx, _ => by simp [Val.isData] at hx
  | .ob _ _, _, hx, _ => by simp [Val.isData] at hx
theorem eqvs_toDs : ∀ (xs ys : List Val), Val.isDatas xs = true → Val.isDatas ys = true → PyData.eqvAll (toDs xs) (toDs ys) = eqvs xs ys
  | [], [], _, _ => rfl
  | [], _ :: _, _, _ => rfl
  | _ :: _, [], _, _ => rfl
  | x :: xs, y :: ys, hx, hy => by
    simp only [Val.isDatas, Bool.and_eq_true] at hx hy
    simp only [toDs, PyData.eqvAll, eqvs]
    rw [eqv_toD x y hx.1 hy.1, eqvs_toDs xs ys hx.2 hy.2]
end
mutual
theorem canLay_toD : ∀ (x : Val), x.isData = true → (toD x).canLay0 = true
  | .non, _ => rfl
  | .bl _, _ => rfl
  | .int _, _ => rfl
  | .str x, h => by simp only [toD, PyData.canLay0, PyData.strOk]; exact h
  | .dct _, h => by simp [Val.isData] at h
  | .dcT _, h => by simp [Val.isData] at h
  | .ob _ _, h => by simp [Val.isData] at h
  | .tup xs, h => by simp only [toD, PyData.canLay0]; exact canLays_toDs xs h
  | .lst xs, h => by simp only [toD, PyData.canLay0]; exact canLays_toDs xs h
theorem canLays_toDs : ∀ (xs : List Val), Val.isDatas xs = true → PyData.canLayAll0 (toDs xs) = true
  | [], _ => rfl
  | x :: xs, h => by
    simp only [Val.isDatas, Bool.and_eq_true] at h
    simp only [toDs, PyData.canLayAll0, canLay_toD x h.1, canLays_toDs xs h.2, Bool.and_self]
end
mutual
theorem depth_toD : ∀ (x : Val), (toD x).depth = x.depth
  | .non => rfl
  | .bl _ => rfl
  | .int _ => rfl
  | .str _ => rfl
  | .dct _ => rfl
  | .dcT _ => rfl
  | .ob _ _ => rfl
  | .tup xs => by simp only [toD, PyData.depth, Val.depth]; rw [depths_toDs xs]
  | .lst xs => by simp only [toD, PyData.depth, Val.depth]; rw [depths_toDs xs]
theorem depths_toDs : ∀ (xs : List Val), PyData.depthAll (toDs xs) = Val.depths xs
  | [] => rfl
  | x :: xs => by simp only [toDs, PyData.depthAll, Val.depths]; rw [depth_toD x, depths_toDs xs]
end
theorem shaped_toD {x : Val} (hd : x.isData = true) (h : x.depth ≤ 64) : SeqAt.shaped (toD x) = true := by
  unfold SeqAt.shaped
  rw [canLay_toD x hd, depth_toD, decide_eq_true h]
  rfl
theorem RV.scal {v w : V} {x y : Val} (rx : RV K N v x) (ry : RV K N w y) (h : scal2 x y = true) : L2.scal v w = true ∧ decide (v = w) = eqv x y := by
  cases rx <;> cases ry <;> first
    | (simp [scal2, Val.isFlat] at h; done)
    | (refine ⟨rfl, ?_⟩; simp [eqv]; done)
    | (refine ⟨rfl, ?_⟩; simp [eqv]; rfl)
    | (refine ⟨rfl, ?_⟩; rename_i a b; cases a <;> cases b <;> rfl)
mutual
theorem RV.dp : ∀ (x : Val) {v : V}, RV K N v x → x.isData = true → Dp K N v (toD x)
  | .non, _, .non, _ => .non
  | .bl _, _, .bl b, _ => .bl b
  | .int _, _, .int b, _ => .int b
  | .str _, _, .str b, _ => .str b
  | .tup xs, _, .tup h r, e => .tup h (RVs.dp xs r e)
  | .lst xs, _, .lst h r, e => .lst h (RVs.dp xs r e)
  | .dct _, _, .dct _ _, e => by simp [Val.isData] at e
  | .dcT _, _, .dcT _ _, e => by simp [Val.isData] at e
  | .ob _ _, _, .ob _ _, e => by simp [Val.isData] at e
theorem RVs.dp : ∀ (xs : List Val) {vs : List V}, RVs K N vs xs → Val.isDatas xs = true → DpAll K N vs (toDs xs)
  | [], _, .nil, _ => .nil
  | x :: xs, _, .cons h r, e => by
    simp only [Val.isDatas, Bool.and_eq_true] at e
    exact .cons (RV.dp x h e.1) (RVs.dp xs r e.2)
end
theorem intsOf_eq : ∀ {xs : List Val} {ns : List Int}, intsOf xs = some ns → xs = ns.map Val.int
  | [], ns, h => by simp [intsOf] at h; subst h; rfl
  | x :: xs, ns, h => by
    cases x with
    | int i =>
      simp only [intsOf, Option.map_eq_some_iff] at h
      obtain ⟨ms, h1, h2⟩ := h
      subst h2
      rw [List.map_cons, ← intsOf_eq h1]
    | _ => simp [intsOf] at h
theorem RVs.ofInts : ∀ {vs : List V} {ns : List Int}, RVs K N vs (ns.map Val.int) → vs = ns.map V.int
  | _, [], .nil => rfl
  | _, _ :: _, .cons (.int _) r => by rw [List.map_cons, ← r.ofInts]
theorem blsOf_eq : ∀ {xs : List Val} {ns : List Bool}, blsOf xs = some ns → xs = ns.map Val.bl
  | [], ns, h => by simp [blsOf] at h; subst h; rfl
  | x :: xs, ns, h => by
    cases x with
    | bl i =>
      simp only [blsOf, Option.map_eq_some_iff] at h
      obtain ⟨ms, h1, h2⟩ := h
      subst h2
      rw [List.map_cons, ← blsOf_eq h1]
    | _ => simp [blsOf] at h
theorem RVs.ofBls : ∀ {vs : List V} {ns : List Bool}, RVs K N vs (ns.map Val.bl) → vs = ns.map V.bl
  | _, [], .nil => rfl
  | _, _ :: _, .cons (.bl _) r => by rw [List.map_cons, ← r.ofBls]
end

/-! ### slots that are read -/
inductive SV (K : PySem.W.Frag) (N : Hp) : L2.St → Env → Prop
  | nil : SV K N [] []
  | un {s : Option V} {σ : L2.St} {env : Env} : SV K N σ env → SV K N (s :: σ) (.un :: env)
  | sh {v : V} {x : Val} {σ : L2.St} {env : Env} : RV K N v x → SV K N σ env → SV K N (some v :: σ) (.sh x :: env)
  | oL {v : V} {xs : List Val} {σ : L2.St} {env : Env} : RV K N v (.lst xs) → SV K N σ env → SV K N (some v :: σ) (.oL xs :: env)
  | oD {v : V} {xs : List (Key × Val)} {σ : L2.St} {env : Env} : RV K N v (.dct xs) → SV K N σ env → SV K N (some v :: σ) (.oD xs :: env)
  | oT {v : V} {t : Tr} {σ : L2.St} {env : Env} : RV K N v t.val → SV K N σ env → SV K N (some v :: σ) (.oT t :: env)
  | me {v : V} {t : Tr} {σ : L2.St} {env : Env} : RV K N v t.val → SV K N σ env → SV K N (some v :: σ) (.me t :: env)
section
variable {K : PySem.W.Frag} {N N' : Hp} {σ : L2.St} {env : Env}
theorem SV.mono (e : Sub N N') (h : SV K N σ env) : SV K N' σ env := by
  induction h with
  | nil => exact .nil
  | un _ ih => exact .un ih
  | sh r _ ih => exact .sh (r.mono e) ih
  | oL r _ ih => exact .oL (r.mono e) ih
  | oD r _ ih => exact .oD (r.mono e) ih
  | oT r _ ih => exact .oT (r.mono e) ih
  | me r _ ih => exact .me (r.mono e) ih
theorem SV.len (h : SV K N σ env) : σ.length = env.length := by
  induction h with
  | nil => rfl
  | un _ ih => exact congrArg (· + 1) ih
  | sh r _ ih => exact congrArg (· + 1) ih
  | oL r _ ih => exact congrArg (· + 1) ih
  | oD r _ ih => exact congrArg (· + 1) ih
  | oT r _ ih => exact congrArg (· + 1) ih
  | me r _ ih => exact congrArg (· + 1) ih
theorem SV.sh_at (h : SV K N σ env) {i : Nat} {x : Val} (e : env[i]? = some (.sh x)) : ∃ v, σ[i]? = some (some v) ∧ RV K N v x := by
  induction h generalizing i with
  | nil => simp at e
  | un _ ih =>
    cases i with
    | zero => simp at e
    | succ i => simpa using ih (by simpa using e)
  | sh r _ ih =>
    cases i with
    | zero => simp at e; subst e; exact ⟨_, rfl, r⟩
    | succ i => simpa using ih (by simpa using e)
  | oL r _ ih =>
    cases i with
    | zero => simp at e
    | succ i => simpa using ih (by simpa using e)
  | oD r _ ih =>
    cases i with
    | zero => simp at e
    | succ i => simpa using ih (by simpa using e)
  | oT r _ ih =>
    cases i with
    | zero => simp at e
    | succ i => simpa using ih (by simpa using e)
  | me r _ ih =>
    cases i with
    | zero => simp at e
    | succ i => simpa using ih (by simpa using e)
theorem SV.oL_at (h : SV K N σ env) {i : Nat} {x : List Val} (e : env[i]? = some (.oL x)) : ∃ v, σ[i]? = some (some v) ∧ RV K N v (.lst x) := by
  induction h generalizing i with
  | nil => simp at e
  | un _ ih =>
    cases i with
    | zero => simp at e
    | succ i => simpa using ih (by simpa using e)
  | oL r _ ih =>
    cases i with
    | zero => simp at e; subst e; exact ⟨_, rfl, r⟩
    | succ i => simpa using ih (by simpa using e)
  | sh r _ ih =>
    cases i with
    | zero => simp at e
    | succ i => simpa using ih (by simpa using e)
  | oD r _ ih =>
    cases i with
    | zero => simp at e
    | succ i => simpa using ih (by simpa using e)
  | oT r _ ih =>
    cases i with
    | zero => simp at e
    | succ i => simpa using ih (by simpa using e)
  | me r _ ih =>
    cases i with
    | zero => simp at e
    | succ i => simpa using ih (by simpa using e)
theorem SV.oD_at (h : SV K N σ env) {i : Nat} {x : List (Key × Val)} (e : env[i]? = some (.oD x)) : ∃ v, σ[i]? = some (some v) ∧ RV K N v (.dct x) := by
  induction h generalizing i with
  | nil => simp at e
  | un _ ih =>
    cases i with
    | zero => simp at e
    | succ i => simpa using ih (by simpa using e)
  | oD r _ ih =>
    cases i with
    | zero => simp at e; subst e; exact ⟨_, rfl, r⟩
    | succ i => simpa using ih (by simpa using e)
  | sh r _ ih =>
    cases i with
    | zero => simp at e
    | succ i => simpa using ih (by simpa using e)
  | oL r _ ih =>
    cases i with
    | zero => simp at e
    | succ i => simpa using ih (by simpa using e)
  | oT r _ ih =>
    cases i with
    | zero => simp at e
    | succ i => simpa using ih (by simpa using e)
  | me r _ ih =>
    cases i with
    | zero => simp at e
    | succ i => simpa using ih (by simpa using e)
theorem SV.oT_at (h : SV K N σ env) {i : Nat} {x : Tr} (e : env[i]? = some (.oT x)) : ∃ v, σ[i]? = some (some v) ∧ RV K N v x.val := by
  induction h generalizing i with
  | nil => simp at e
  | un _ ih =>
    cases i with
    | zero => simp at e
    | succ i => simpa using ih (by simpa using e)
  | oT r _ ih =>
    cases i with
    | zero => simp at e; subst e; exact ⟨_, rfl, r⟩
    | succ i => simpa using ih (by simpa using e)
  | sh r _ ih =>
    cases i with
    | zero => simp at e
    | succ i => simpa using ih (by simpa using e)
  | oL r _ ih =>
    cases i with
    | zero => simp at e
    | succ i => simpa using ih (by simpa using e)
  | oD r _ ih =>
    cases i with
    | zero => simp at e
    | succ i => simpa using ih (by simpa using e)
  | me r _ ih =>
    cases i with
    | zero => simp at e
    | succ i => simpa using ih (by simpa using e)
theorem SV.me_at (h : SV K N σ env) {i : Nat} {x : Tr} (e : env[i]? = some (.me x)) : ∃ v, σ[i]? = some (some v) ∧ RV K N v x.val := by
  induction h generalizing i with
  | nil => simp at e
  | un _ ih =>
    cases i with
    | zero => simp at e
    | succ i => simpa using ih (by simpa using e)
  | me r _ ih =>
    cases i with
    | zero => simp at e; subst e; exact ⟨_, rfl, r⟩
    | succ i => simpa using ih (by simpa using e)
  | sh r _ ih =>
    cases i with
    | zero => simp at e
    | succ i => simpa using ih (by simpa using e)
  | oL r _ ih =>
    cases i with
    | zero => simp at e
    | succ i => simpa using ih (by simpa using e)
  | oD r _ ih =>
    cases i with
    | zero => simp at e
    | succ i => simpa using ih (by simpa using e)
  | oT r _ ih =>
    cases i with
    | zero => simp at e
    | succ i => simpa using ih (by simpa using e)
theorem SV.set_sh (h : SV K N σ env) {i : Nat} {v : V} {x : Val} (r : RV K N v x) : SV K N (σ.set i (some v)) (env.set i (.sh x)) := by
  induction h generalizing i with
  | nil => exact .nil
  | un t ih =>
    cases i with
    | zero => exact .sh r t
    | succ i => exact .un ih
  | sh q t ih =>
    cases i with
    | zero => exact .sh r t
    | succ i => exact .sh q ih
  | oL q t ih =>
    cases i with
    | zero => exact .sh r t
    | succ i => exact .oL q ih
  | oD q t ih =>
    cases i with
    | zero => exact .sh r t
    | succ i => exact .oD q ih
  | oT q t ih =>
    cases i with
    | zero => exact .sh r t
    | succ i => exact .oT q ih
  | me q t ih =>
    cases i with
    | zero => exact .sh r t
    | succ i => exact .me q ih
theorem SV.set_un (h : SV K N σ env) {i : Nat} {s : Option V} : SV K N (σ.set i s) (env.set i .un) := by
  induction h generalizing i with
  | nil => exact .nil
  | un t ih =>
    cases i with
    | zero => exact .un t
    | succ i => exact .un ih
  | sh q t ih =>
    cases i with
    | zero => exact .un t
    | succ i => exact .sh q ih
  | oL q t ih =>
    cases i with
    | zero => exact .un t
    | succ i => exact .oL q ih
  | oD q t ih =>
    cases i with
    | zero => exact .un t
    | succ i => exact .oD q ih
  | oT q t ih =>
    cases i with
    | zero => exact .un t
    | succ i => exact .oT q ih
  | me q t ih =>
    cases i with
    | zero => exact .un t
    | succ i => exact .me q ih
theorem SV.wipe (h : SV K N σ env) : ∀ (vs : List Nat), SV K N (L2.wipe σ vs) (wipeE env vs)
  | [] => h
  | v :: vs => (SV.wipe h vs).set_un
end
end Vm

/-! The value machine over HandS: expressions. -/
namespace Vm
open PySem L2

/-- how an exception lies: heap, class, its dict -/
abbrev XRel := Hp → Value → Option Addr → Exn → Prop
structure Cn where
  XR : XRel
  W : Option WX
def ExcP (C : Cn) (σ : L2.St) (N H : Hp) (e : Exn) : Prop := ∃ w, C.W = some w ∧ ∀ cls d N' H', Gr N H N' H' → C.XR H' cls d e → w cls d σ H'
def PostR {α : Type} (C : Cn) (σ : L2.St) (N H : Hp) (r : Res α) (P : α → Hp → Hp → Prop) : Prop := match r with
  | .ok x => ∀ N' H', Gr N H N' H' → P x N' H'
  | .exc e => ExcP C σ N H e
  | .bad => False
section
variable {α β : Type} {C : Cn} {σ : L2.St} {N H N1 H1 : Hp} {r : Res α} {P : α → Hp → Hp → Prop}
theorem ExcP.step {e : Exn} (g : Gr N H N1 H1) (h : ExcP C σ N H e) : ExcP C σ N1 H1 e := by
  obtain ⟨w, h1, h2⟩ := h
  exact ⟨w, h1, fun cls d N' H' g' => h2 cls d N' H' (g.trans g')⟩
theorem PostR.step (g : Gr N H N1 H1) (h : PostR C σ N H r P) : PostR C σ N1 H1 r P := by
  cases r with
  | ok x => exact fun N' H' g' => h N' H' (g.trans g')
  | exc e => exact ExcP.step g h
  | bad => exact h
theorem PostR.now {x : α} (e : Sub N H) (h : PostR C σ N H (.ok x) P) : P x N H := h N H (Gr.refl e)
theorem PostR.imp {P' : α → Hp → Hp → Prop} (h : PostR C σ N H r P) (k : ∀ x N' H', Gr N H N' H' → P x N' H' → P' x N' H') : PostR C σ N H r P' := by
  cases r with
  | ok x => exact fun N' H' g' => k x N' H' g' (h N' H' g')
  | exc e => exact h
  | bad => exact h
/-- the first part's end, where the second part's is wanted -/
theorem PostR.bind {f : α → Res β} {P : β → Hp → Hp → Prop} (h : PostR C σ N H (r.bind f) P) : PostR C σ N H r (fun x N' H' => PostR C σ N' H' (f x) P) := by
  cases r with
  | ok x => exact fun N' H' g' => PostR.step g' h
  | exc e => exact h
  | bad => exact h
end

/-- an expression -/
def EvE (K : PySem.W.Frag) (C : Cn) (te : TE) (m : EX) : Prop := ∀ N H σ env, Sub N H → SV K N σ env → ∀ Q : VK, PostR C σ N H (m env) (fun x N' H' => ∀ v, RV K N' v x → Q v H') → te σ H Q
def EvB (K : PySem.W.Frag) (C : Cn) (tt : TT) (m : EB) : Prop := ∀ N H σ env, Sub N H → SV K N σ env → ∀ Q : Bool → Hp → Prop, PostR C σ N H (m env) (fun x _ H' => Q x H') → tt σ H Q
def EvA (K : PySem.W.Frag) (C : Cn) (ta : TA) (m : EL) : Prop := ∀ N H σ env, Sub N H → SV K N σ env → ∀ Q : List V → Hp → Prop, PostR C σ N H (m env) (fun xs N' H' => ∀ vs, RVs K N' vs xs → Q vs H') → ta σ H Q
/-- a list that is made -/
def EvF (K : PySem.W.Frag) (C : Cn) (te : TE) (m : EX) : Prop := ∀ N H σ env, Sub N H → SV K N σ env → ∀ Q : VK, PostR C σ N H (m env) (fun x N' H' => ∃ xs, x = .lst xs ∧ ∀ p vs, H' p = none → RVs K N' vs xs → Q (.ref p) (upd H' p (.lst vs))) → te σ H Q
structure SE (X : Cx) (C : Cn) (e : Expr) (te : TE) (m : EX) : Prop where
  pe : PE X e te
  ev : EvE X.K C te m
structure SB (X : Cx) (C : Cn) (e : Expr) (te : TT) (m : EB) : Prop where
  pe : PT X e te
  ev : EvB X.K C te m
structure SW (X : Cx) (C : Cn) (e : Expr) (te : TT) (m : EB) : Prop where
  pe : PW X e te
  ev : EvB X.K C te m
structure SA (X : Cx) (C : Cn) (es : List Expr) (te : TA) (m : EL) : Prop where
  pe : PA X es te
  ev : EvA X.K C te m
structure SF (X : Cx) (C : Cn) (e : Expr) (te : TE) (m : EX) : Prop where
  pe : PE X e te
  ev : EvF X.K C te m

/-- what an operation on values does -/
def OpS (K : PySem.W.Frag) (r : R2) (f : Val → Val → Res Val) : Prop := ∀ N H, Sub N H → ∀ v w x y, RV K N v x → RV K N w y → ∀ Q : VK, (∃ z, f x y = .ok z ∧ ∀ N' H', Gr N H N' H' → ∀ u, RV K N' u z → Q u H') → r v w H Q
def UnS (K : PySem.W.Frag) (r : V → Hp → VK → Prop) (f : Val → Res Val) : Prop := ∀ N H, Sub N H → ∀ v x, RV K N v x → ∀ Q : VK, (∃ z, f x = .ok z ∧ ∀ N' H', Gr N H N' H' → ∀ u, RV K N' u z → Q u H') → r v H Q
def CaS (K : PySem.W.Frag) (r : List V → Hp → VK → Prop) (f : List Val → Res Val) : Prop := ∀ N H, Sub N H → ∀ vs xs, RVs K N vs xs → ∀ Q : VK, (∃ z, f xs = .ok z ∧ ∀ N' H', Gr N H N' H' → ∀ u, RV K N' u z → Q u H') → r vs H Q
/-- f raises nothing -/
def NX {α : Type} (r : Res α) : Prop := ∀ e, r ≠ .exc e
theorem PostR.val {α : Type} {C : Cn} {σ : L2.St} {N H : Hp} {r : Res α} {P : α → Hp → Hp → Prop} (h : PostR C σ N H r P) (n : NX r) : ∃ z, r = .ok z ∧ ∀ N' H', Gr N H N' H' → P z N' H' := by
  cases r with
  | ok x => exact ⟨x, rfl, h⟩
  | exc e => exact absurd rfl (n e)
  | bad => exact h.elim

section
variable {K : PySem.W.Frag} {C : Cn} {ta tb tc : TE} {ma mb mc : EX}
theorem ev_c {v : V} {x : Val} (r : ∀ N, RV K N v x) : EvE K C (tC v) (eC x) := fun N H σ env e s Q h => h N H (Gr.refl e) v (r N)
theorem ev_var {i : Nat} : EvE K C (tVar i) (eVar i) := fun N H σ env e s Q h => by
  unfold eVar at h
  split at h
  · rename_i x hx
    obtain ⟨v, h1, h2⟩ := s.sh_at hx
    exact ⟨v, h1, h N H (Gr.refl e) v h2⟩
  · rename_i x hx
    obtain ⟨v, h1, h2⟩ := s.oL_at hx
    exact ⟨v, h1, h N H (Gr.refl e) v h2⟩
  · rename_i x hx
    obtain ⟨v, h1, h2⟩ := s.oD_at hx
    exact ⟨v, h1, h N H (Gr.refl e) v h2⟩
  · rename_i x hx
    obtain ⟨v, h1, h2⟩ := s.oT_at hx
    exact ⟨v, h1, h N H (Gr.refl e) v h2⟩
  · rename_i x hx
    obtain ⟨v, h1, h2⟩ := s.me_at hx
    exact ⟨v, h1, h N H (Gr.refl e) v h2⟩
  · exact h.elim
theorem ev_op {r : R2} {f : Val → Val → Res Val} (hr : OpS K r f) (n : ∀ x y, NX (f x y)) (ha : EvE K C ta ma) (hb : EvE K C tb mb) : EvE K C (tOp r ta tb) (e2 f ma mb) := fun N H σ env e s Q h => by
  refine ha N H σ env e s _ (PostR.imp (PostR.bind h) fun x N1 H1 g1 h1 v rv => ?_)
  refine hb N1 H1 σ env g1.nh (s.mono g1.nn) _ (PostR.imp (PostR.bind h1) fun y N2 H2 g2 h2 w rw' => ?_)
  exact hr N2 H2 g2.nh v w x y (rv.mono g2.nn) rw' Q (by
    obtain ⟨z, hz, k⟩ := h2.val (n x y)
    exact ⟨z, hz, k⟩)
theorem ev_un {r : V → Hp → VK → Prop} {f : Val → Res Val} (hr : UnS K r f) (n : ∀ x, NX (f x)) (ha : EvE K C ta ma) : EvE K C (tUn r ta) (e1 f ma) := fun N H σ env e s Q h => by
  refine ha N H σ env e s _ (PostR.imp (PostR.bind h) fun x N1 H1 g1 h1 v rv => ?_)
  exact hr N1 H1 g1.nh v x rv Q (h1.val (n x))
theorem ea_nil : EvA K C tNil aNil := fun N H σ env e s Q h => h N H (Gr.refl e) [] .nil
theorem ea_cons {t : TA} {m : EL} (ha : EvE K C ta ma) (hr : EvA K C t m) : EvA K C (tCons ta t) (aCons ma m) := fun N H σ env e s Q h => by
  refine ha N H σ env e s _ (PostR.imp (PostR.bind h) fun x N1 H1 g1 h1 v rv => ?_)
  refine hr N1 H1 σ env g1.nh (s.mono g1.nn) _ (PostR.imp (PostR.bind h1) fun xs N2 H2 g2 h2 vs rvs => ?_)
  exact h2 N2 H2 (Gr.refl g2.nh) (v :: vs) (.cons (rv.mono g2.nn) rvs)
theorem ev_cb {r : List V → Hp → VK → Prop} {f : List Val → Res Val} {t : TA} {m : EL} (hr : CaS K r f) (n : ∀ x, NX (f x)) (ha : EvA K C t m) : EvE K C (tCB r t) (eArgs f m) := fun N H σ env e s Q h => by
  refine ha N H σ env e s _ (PostR.imp (PostR.bind h) fun xs N1 H1 g1 h1 vs rvs => ?_)
  exact hr N1 H1 g1.nh vs xs rvs Q (h1.val (n xs))
theorem eb_test (ha : EvE K C ta ma) : EvB K C (tTest ta) (bVal ma) := fun N H σ env e s Q h => by
  refine ha N H σ env e s _ (PostR.imp (PostR.bind h) fun x N1 H1 g1 h1 v rv => ?_)
  cases rv with
  | bl b => exact ⟨b, rfl, PostR.now g1.nh h1⟩
  | _ => exact h1.elim
theorem eb_B (ha : EvE K C ta ma) : EvB K C (tB ta) (bVal ma) := eb_test ha
theorem eb_and {t u : TT} {m n : EB} (ha : EvB K C t m) (hb : EvB K C u n) : EvB K C (tAnd t u) (bAnd m n) := fun N H σ env e s Q h => by
  refine ha N H σ env e s _ (PostR.imp (PostR.bind h) fun x N1 H1 g1 h1 => ?_)
  cases x with
  | true => exact hb N1 H1 σ env g1.nh (s.mono g1.nn) Q h1
  | false => exact PostR.now (P := fun x _ H' => Q x H') g1.nh h1
theorem eb_or {t u : TT} {m n : EB} (ha : EvB K C t m) (hb : EvB K C u n) : EvB K C (tOr t u) (bOr m n) := fun N H σ env e s Q h => by
  refine ha N H σ env e s _ (PostR.imp (PostR.bind h) fun x N1 H1 g1 h1 => ?_)
  cases x with
  | true => exact PostR.now (P := fun x _ H' => Q x H') g1.nh h1
  | false => exact hb N1 H1 σ env g1.nh (s.mono g1.nn) Q h1
theorem eb_not {t : TT} {m : EB} (ha : EvB K C t m) : EvB K C (tNot t) (bNot m) := fun N H σ env e s Q h => by
  refine ha N H σ env e s _ (PostR.imp (PostR.bind h) fun x N1 H1 g1 h1 => ?_)
  exact PostR.now (P := fun x _ H' => Q x H') g1.nh h1
theorem asBl_ok {x : Val} {k : Bool} (h : asBl x = .ok k) : x = .bl k := by
  cases x <;> simp [asBl] at h
  rw [h]
theorem PostR.asBl {α : Type} {σ : L2.St} {N H : Hp} {x : Val} {f : Bool → Res α} {P : α → Hp → Hp → Prop} (h : PostR C σ N H ((asBl x).bind f) P) : ∃ k, x = .bl k ∧ PostR C σ N H (f k) P := by
  cases x with
  | bl k => exact ⟨k, rfl, h⟩
  | _ => exact h.elim
theorem ev_and (ha : EvE K C ta ma) (hb : EvE K C tb mb) : EvE K C (tAndV ta tb) (eAnd ma mb) := fun N H σ env e s Q h => by
  refine ha N H σ env e s _ (PostR.imp (PostR.bind h) fun x N1 H1 g1 h1 v rv => ?_)
  obtain ⟨k, rfl, h1⟩ := h1.asBl
  cases rv
  refine ⟨k, rfl, ?_⟩
  cases k with
  | true => exact hb N1 H1 σ env g1.nh (s.mono g1.nn) Q h1
  | false => exact h1 N1 H1 (Gr.refl g1.nh) _ (.bl false)
theorem ev_or (ha : EvE K C ta ma) (hb : EvE K C tb mb) : EvE K C (tOrV ta tb) (eOr ma mb) := fun N H σ env e s Q h => by
  refine ha N H σ env e s _ (PostR.imp (PostR.bind h) fun x N1 H1 g1 h1 v rv => ?_)
  obtain ⟨k, rfl, h1⟩ := h1.asBl
  cases rv
  refine ⟨k, rfl, ?_⟩
  cases k with
  | true => exact h1 N1 H1 (Gr.refl g1.nh) _ (.bl true)
  | false => exact hb N1 H1 σ env g1.nh (s.mono g1.nn) Q h1
theorem ev_not (ha : EvE K C ta ma) : EvE K C (tNotV ta) (eNot ma) := fun N H σ env e s Q h => by
  refine ha N H σ env e s _ (PostR.imp (PostR.bind h) fun x N1 H1 g1 h1 v rv => ?_)
  obtain ⟨k, rfl, h1⟩ := h1.asBl
  cases rv
  exact ⟨k, rfl, h1 N1 H1 (Gr.refl g1.nh) _ (.bl _)⟩
theorem ev_if {t : TT} {m : EB} (ht : EvB K C t m) (ha : EvE K C ta ma) (hb : EvE K C tb mb) : EvE K C (tIf t ta tb) (eIf m ma mb) := fun N H σ env e s Q h => by
  refine ht N H σ env e s _ (PostR.imp (PostR.bind h) fun x N1 H1 g1 h1 => ?_)
  cases x with
  | true => exact ha N1 H1 σ env g1.nh (s.mono g1.nn) Q h1
  | false => exact hb N1 H1 σ env g1.nh (s.mono g1.nn) Q h1
theorem ev_chain {r r' : R2} {f g : Val → Val → Res Val} (hr : OpS K r f) (hr' : OpS K r' g) (n : ∀ x y, NX (f x y)) (n' : ∀ x y, NX (g x y)) (ha : EvE K C ta ma) (hb : EvE K C tb mb) (hc : EvE K C tc mc) : EvE K C (tChain r r' ta tb tc) (eChain f g ma mb mc) := fun N H σ env e s Q h => by
  refine ha N H σ env e s _ (PostR.imp (PostR.bind h) fun x N1 H1 g1 h1 v rv => ?_)
  refine hb N1 H1 σ env g1.nh (s.mono g1.nn) _ (PostR.imp (PostR.bind h1) fun y N2 H2 g2 h2 w rw' => ?_)
  obtain ⟨z, hz, k⟩ := (PostR.bind h2).val (n x y)
  refine hr N2 H2 g2.nh v w x y (rv.mono g2.nn) rw' _ ⟨z, hz, fun N3 H3 g3 u ru => ?_⟩
  obtain ⟨b, rfl, k3⟩ := (k N3 H3 g3).asBl
  cases ru
  refine ⟨b, rfl, ?_⟩
  cases b with
  | false => exact k3 N3 H3 (Gr.refl g3.nh) _ (.bl false)
  | true =>
    refine hc N3 H3 σ env g3.nh ((s.mono g1.nn).mono (fun a o q => g3.nn a o (g2.nn a o q))) _ (PostR.imp (PostR.bind k3) fun c N4 H4 g4 h4 w' rc => ?_)
    exact hr' N4 H4 g4.nh w w' y c ((rw'.mono g3.nn).mono g4.nn) rc Q (h4.val (n' y c))
end
theorem len_line {n : Nat} (h : n ≤ 16777216) : n ≤ sizeLine := by rw [sizeLine_eq]; exact h
section
variable {K : PySem.W.Frag} {C : Cn} {t : TA} {m : EL}
theorem ev_tup (ha : EvA K C t m) : EvE K C (tTup t) (eArgs vTup m) := fun N H σ env e s Q h => by
  refine ha N H σ env e s _ (PostR.imp (PostR.bind h) fun xs N1 H1 g1 h1 vs rvs => ?_)
  unfold vTup at h1
  split at h1
  · rename_i hl
    refine ⟨len_line (by rw [rvs.length]; exact hl), fun p hp => ?_⟩
    have g2 := Gr.new (o := .tup vs) g1.nh hp
    exact h1 _ _ g2 _ (.tup (SqT.of upd_same) (rvs.mono g2.nn))
  · exact h1.elim
theorem ef_lst (ha : EvA K C t m) : EvF K C (tLst t) (eArgs vLst m) := fun N H σ env e s Q h => by
  refine ha N H σ env e s _ (PostR.imp (PostR.bind h) fun xs N1 H1 g1 h1 vs rvs => ?_)
  unfold vLst at h1
  split at h1
  · rename_i hl
    obtain ⟨ys, e1, h2⟩ := h1 N1 H1 (Gr.refl g1.nh)
    cases e1
    exact ⟨len_line (by rw [rvs.length]; exact hl), fun p hp => h2 p vs hp rvs⟩
  · exact h1.elim
end
/-- a list that is made, as a value -/
theorem EvF.e {K : PySem.W.Frag} {C : Cn} {te : TE} {m : EX} (hl : ∀ env x, m env = .ok x → ∃ xs, x = .lst xs) (h : EvF K C te m) : EvE K C te m := fun N H σ env e s Q k => by
  refine h N H σ env e s Q ?_
  cases hm : m env with
  | bad => rw [hm] at k; exact k
  | exc x => rw [hm] at k; exact k
  | ok x =>
    rw [hm] at k
    obtain ⟨xs, rfl⟩ := hl env x hm
    refine fun N1 H1 g1 => ⟨xs, rfl, fun p vs hp rvs => ?_⟩
    have g2 := Gr.new (o := .lst vs) g1.nh hp
    exact k _ _ (g1.trans g2) _ (.lst (SqL.of upd_same) (rvs.mono g2.nn))
end Vm

/-! The value machine over HandS: operators. -/
namespace Vm
open PySem L2 PyProof.Rows
theorem line_eq : (sizeLine : Nat) = 16777216 := sizeLine_eq
theorem OpR.or {X : Cx} {f : Value → Value → Sem Value} {r r' : R2} (h : OpR X f r) (h' : OpR X f r') : OpR X f (fun x y H Q => r x y H Q ∨ r' x y H Q) := by
  intro pins s σ H x y v u Q I rx ry q
  rcases q with q | q
  · exact h pins s σ H x y v u Q I rx ry q
  · exact h' pins s σ H x y v u Q I rx ry q
def rCatS (K : PySem.W.Frag) : R2 := fun x y H Q => ∃ l b xs zs, x = .ref l ∧ y = .ref b ∧ SqL K H l xs ∧ SqL K H b zs ∧ xs.length + zs.length ≤ sizeLine ∧ ∀ p, H p = none → Q (.ref p) (upd H p (.lst (xs ++ zs)))
theorem op_catS {X : Cx} : OpR X (binaryOp .Add) (rCatS X.K) := by
  intro pins s σ H x y v u Q I rx ry h
  obtain ⟨l, b, xs, zs, rfl, rfl, hH, hB, hz, q⟩ := h
  cases rx
  cases ry
  obtain ⟨its, r, p1, z1⟩ := I.list hH
  obtain ⟨its2, r2, p2, z2⟩ := I.list hB
  obtain ⟨⟨cls, dd, data, sl⟩, ho, hc, n, hd⟩ := p1.isList
  obtain ⟨⟨cls2, dd2, data2, sl2⟩, ho2, hc2, n2, hd2⟩ := p2.isList
  simp only at hc hd hc2 hd2
  subst hc hd hc2 hd2
  have hl := r.length
  have hl2 := r2.length
  have ea : its.toArray ++ its2.toArray = (its ++ its2).toArray := by simp
  refine concat_meets ⟨_, ho, rfl⟩ ⟨_, ho2, rfl⟩ noFill_list_add seq_list_add PySem.F.slot_list_add PySem.F.entry_list_add (PySem.F.args_list_add_2 _ _) (list_addW l b its.toArray its2.toArray n n2 dd dd2 sl sl2 (by simp only [List.size_toArray]; omega)) ⟨ho, ho2, ?_⟩
  rw [ea]
  exact ⟨.ref _, _, I.lnew (t' := s.toks) (r.append r2) (by rw [List.length_append]; omega), rfl, q _ I.fresh⟩

def rAddV (K : PySem.W.Frag) : R2 := fun x y H Q => (rI0 fun i j => .int (i + j)) x y H Q ∨ (∃ i j, x = .str i ∧ y = .str j ∧ i.length + j.length ≤ sizeLine ∧ Q (.str (i ++ j)) H) ∨ rCatS K x y H Q ∨ rCatT K x y H Q
theorem op_addV {X : Cx} : OpR X (binaryOp .Add) (rAddV X.K) := OpR.or op_add (OpR.or op_add_str (OpR.or op_catS op_catT))
def rMulV : R2 := rI CMul fun i j => .int (i * j)
def rDivV : R2 := rI CDivW fun i j => .int (i / j)
def rModV : R2 := rI (fun _ j => 0 < j) fun i j => .int (i % j)
def rPowV : R2 := rI CPow fun i j => .int (i ^ j.toNat)
def rEqV (K : PySem.W.Frag) : R2 := fun x y H Q => rEq x y H Q ∨ rEqD K x y H Q
def rNeV (K : PySem.W.Frag) : R2 := fun x y H Q => rNe x y H Q ∨ rNeD K x y H Q
theorem op_eqV {X : Cx} (hu : X.A.units + 64 < cLine) : OpR X (compareOp .Eq) (rEqV X.K) := OpR.or op_eq (op_eqD hu)
theorem op_neV {X : Cx} (hu : X.A.units + 64 < cLine) : OpR X (compareOp .NotEq) (rNeV X.K) := OpR.or op_ne (op_neD hu)
def rInV (K : PySem.W.Frag) : R2 := fun x y H Q => rIn K false x y H Q ∨ (∃ (c : Nat) (z : Str), x = .str ⟨#[c]⟩ ∧ y = .str z ∧ Q (.bl (decide (c ∈ z.cps.toList))) H)
def rNotInV (K : PySem.W.Frag) : R2 := fun x y H Q => rIn K true x y H Q ∨ (∃ (c : Nat) (z : Str), x = .str ⟨#[c]⟩ ∧ y = .str z ∧ Q (.bl (!decide (c ∈ z.cps.toList))) H)
theorem op_inV {X : Cx} : OpR X (compareOp .In) (rInV X.K) := OpR.or op_in_seq op_in_sign
theorem op_notInV {X : Cx} : OpR X (compareOp .NotIn) (rNotInV X.K) := OpR.or op_notIn_seq op_notIn_sign
def rIsN : R2 := fun x y H Q => y = .non ∧ Q (.bl (decide (x = .non))) H
def rNotN : R2 := fun x y H Q => y = .non ∧ Q (.bl (!decide (x = .non))) H

/-! ### no exceptions -/
theorem nx_ok {α : Type} {a : α} : NX (Res.ok a) := fun _ h => nomatch h
theorem nx_bad {α : Type} : NX (Res.bad : Res α) := fun _ h => nomatch h
theorem nx_ofOpt {α : Type} {o : Option α} : NX (Res.ofOpt o) := by cases o <;> exact fun _ h => nomatch h
theorem nx_bind {α β : Type} {r : Res α} {f : α → Res β} (h : NX r) (k : ∀ a, NX (f a)) : NX (r.bind f) := by
  cases r with
  | ok a => exact k a
  | exc e => exact absurd rfl (h e)
  | bad => exact fun _ h => nomatch h
theorem nx_ite {α : Type} {c : Prop} [Decidable c] {a b : Res α} (h1 : NX a) (h2 : NX b) : NX (if c then a else b) := by split <;> assumption
theorem nx_eqR (x y : Val) : NX (eqR x y) := by unfold eqR; exact nx_ite nx_ok (nx_ite nx_ok nx_bad)
section
variable (x y : Val)
theorem nx_add : NX (vAdd x y) := by unfold vAdd; split <;> first | exact nx_ok | exact nx_ite nx_ok nx_bad | exact nx_bad
theorem nx_sub : NX (vSub x y) := by unfold vSub; split <;> first | exact nx_ok | exact nx_bad
theorem nx_mul : NX (vMul x y) := by unfold vMul; split <;> first | exact nx_ite nx_ok nx_bad | exact nx_bad
theorem nx_div : NX (vDiv x y) := by unfold vDiv; split <;> first | exact nx_ite nx_ok nx_bad | exact nx_bad
theorem nx_mod : NX (vMod x y) := by unfold vMod; split <;> first | exact nx_ite nx_ok nx_bad | exact nx_bad
theorem nx_pow : NX (vPow x y) := by unfold vPow; split <;> first | exact nx_ite nx_ok nx_bad | exact nx_bad
theorem nx_neg : NX (vNeg x) := by unfold vNeg; split <;> first | exact nx_ok | exact nx_bad
theorem nx_lt : NX (vLt x y) := by unfold vLt; split <;> first | exact nx_ok | exact nx_bad
theorem nx_le : NX (vLe x y) := by unfold vLe; split <;> first | exact nx_ok | exact nx_bad
theorem nx_gt : NX (vGt x y) := by unfold vGt; split <;> first | exact nx_ok | exact nx_bad
theorem nx_ge : NX (vGe x y) := by unfold vGe; split <;> first | exact nx_ok | exact nx_bad
theorem nx_eq : NX (vEq x y) := by unfold vEq; exact nx_bind (nx_eqR x y) fun _ => nx_ok
theorem nx_ne : NX (vNe x y) := by unfold vNe; exact nx_bind (nx_eqR x y) fun _ => nx_ok
theorem nx_in : NX (vInS x y) := by
  unfold vInS
  split
  · exact nx_ite nx_ok nx_bad
  · exact nx_ite nx_ok nx_bad
  · split <;> first | exact nx_ok | exact nx_bad
  · exact nx_bad
theorem nx_not {r : Res Val} (h : NX r) : NX (rNot r) := by
  cases r with
  | ok a => unfold rNot; split <;> first | exact nx_ok | exact nx_bad | (rename_i e; cases e)
  | exc e => exact absurd rfl (h e)
  | bad => exact nx_bad
theorem nx_notIn : NX (vNotInS x y) := nx_not (nx_in x y)
theorem nx_is : NX (vIs x y) := by unfold vIs; split <;> first | exact nx_ok | exact nx_bad
theorem nx_isNot : NX (vIsNot x y) := by unfold vIsNot; split <;> first | exact nx_ok | exact nx_bad
theorem nx_ix : NX (vIxS x y) := by unfold vIxS; split <;> first | exact nx_ofOpt | exact nx_ite nx_ofOpt nx_bad | exact nx_bad
end

/-! ### what they do -/
section
variable {K : PySem.W.Frag}
theorem ops_add : OpS K (rAddV K) vAdd := by
  intro N H e v w x y rx ry Q ⟨z, hz, k⟩
  cases rx with
  | int i =>
    cases ry with
    | int j => cases hz; exact .inl ⟨i, j, rfl, rfl, k N H (Gr.refl e) _ (.int _)⟩
    | _ => cases hz
  | str i =>
    cases ry with
    | str j =>
      simp only [vAdd] at hz
      split at hz
      · cases hz; rename_i hl; exact .inr (.inl ⟨i, j, rfl, rfl, by rw [line_eq]; exact hl, k N H (Gr.refl e) _ (.str _)⟩)
      · cases hz
    | _ => cases hz
  | lst h r =>
    cases ry with
    | lst h2 r2 =>
      simp only [vAdd] at hz
      split at hz
      · cases hz
        rename_i hl
        refine .inr (.inr (.inl ⟨_, _, _, _, rfl, rfl, sq_mono e h, sq_mono e h2, by rw [line_eq, r.length, r2.length]; exact hl, fun p hp => ?_⟩))
        exact k _ _ (Gr.new e hp) _ (.lst (SqL.of upd_same) ((r.append r2).mono (Gr.new e hp).nn))
      · cases hz
    | _ => cases hz
  | tup h r =>
    cases ry with
    | tup h2 r2 =>
      simp only [vAdd] at hz
      split at hz
      · cases hz
        rename_i hl
        obtain ⟨l1, n1⟩ := hl
        refine .inr (.inr (.inr ⟨_, _, _, _, rfl, rfl, st_mono e h, st_mono e h2, fun z => ?_, by rw [line_eq, r.length, r2.length]; exact l1, fun z => ?_, fun z p hp => ?_⟩))
        · have := r.length
          rw [z] at this
          rw [List.isEmpty_eq_false_iff] at n1
          exact n1 (List.length_eq_zero_iff.mp this.symm)
        · have hy := r2.length
          rw [z] at hy
          have hy2 := List.length_eq_zero_iff.mp hy.symm
          refine k N H (Gr.refl e) _ ?_
          rw [hy2, List.append_nil]
          exact .tup h r
        · exact k _ _ (Gr.new e hp) _ (.tup (SqT.of upd_same) ((r.append r2).mono (Gr.new e hp).nn))
      · cases hz
    | _ => cases hz
  | _ => cases hz
theorem ops_I0 {g : Int → Int → Val} {gv : Int → Int → V} {f : Val → Val → Res Val} (hg : ∀ N i j, RV K N (gv i j) (g i j)) (hf : ∀ x y z, f x y = .ok z → ∃ i j, x = .int i ∧ y = .int j ∧ z = g i j) : OpS K (rI0 gv) f := by
  intro N H e v w x y rx ry Q ⟨z, hz, k⟩
  obtain ⟨i, j, rfl, rfl, rfl⟩ := hf x y z hz
  cases rx
  cases ry
  exact ⟨i, j, rfl, rfl, k N H (Gr.refl e) _ (hg N i j)⟩
theorem ops_I {c : Int → Int → Prop} {g : Int → Int → Val} {gv : Int → Int → V} {f : Val → Val → Res Val} (hg : ∀ N i j, RV K N (gv i j) (g i j)) (hf : ∀ x y z, f x y = .ok z → ∃ i j, x = .int i ∧ y = .int j ∧ c i j ∧ z = g i j) : OpS K (rI c gv) f := by
  intro N H e v w x y rx ry Q ⟨z, hz, k⟩
  obtain ⟨i, j, rfl, rfl, hc, rfl⟩ := hf x y z hz
  cases rx
  cases ry
  exact ⟨i, j, rfl, rfl, hc, k N H (Gr.refl e) _ (hg N i j)⟩
theorem ops_sub : OpS K (rI0 fun i j => .int (i - j)) vSub := ops_I0 (g := fun i j => .int (i - j)) (fun _ _ _ => .int _) fun x y z h => by
  cases x <;> cases y <;> first | (cases h; exact ⟨_, _, rfl, rfl, rfl⟩) | cases h
theorem ops_lt : OpS K (rI0 fun i j => .bl (decide (i < j))) vLt := ops_I0 (g := fun i j => .bl (decide (i < j))) (fun _ _ _ => .bl _) fun x y z h => by
  cases x <;> cases y <;> first | (cases h; exact ⟨_, _, rfl, rfl, rfl⟩) | cases h
theorem ops_le : OpS K (rI0 fun i j => .bl (decide (i ≤ j))) vLe := ops_I0 (g := fun i j => .bl (decide (i ≤ j))) (fun _ _ _ => .bl _) fun x y z h => by
  cases x <;> cases y <;> first | (cases h; exact ⟨_, _, rfl, rfl, rfl⟩) | cases h
theorem ops_gt : OpS K (rI0 fun i j => .bl (decide (j < i))) vGt := ops_I0 (g := fun i j => .bl (decide (j < i))) (fun _ _ _ => .bl _) fun x y z h => by
  cases x <;> cases y <;> first | (cases h; exact ⟨_, _, rfl, rfl, rfl⟩) | cases h
theorem ops_ge : OpS K (rI0 fun i j => .bl (decide (j ≤ i))) vGe := ops_I0 (g := fun i j => .bl (decide (j ≤ i))) (fun _ _ _ => .bl _) fun x y z h => by
  cases x <;> cases y <;> first | (cases h; exact ⟨_, _, rfl, rfl, rfl⟩) | cases h
theorem ite_ok {α : Type} {c : Prop} [Decidable c] {a z : α} (h : (if c then Res.ok a else .bad) = .ok z) : c ∧ z = a := by
  split at h
  · rename_i hc; cases h; exact ⟨hc, rfl⟩
  · cases h
theorem ops_mul : OpS K rMulV vMul := ops_I (g := fun i j => .int (i * j)) (fun _ _ _ => .int _) fun x y z h => by
  unfold vMul at h
  split at h
  · rename_i i j
    obtain ⟨h1, h2⟩ := ite_ok h
    refine ⟨i, j, rfl, rfl, ?_, h2⟩
    rcases big_iff.mp h1 with h1 | h1
    · exact .inl ⟨by have := h1.1; omega, by have := h1.2; omega⟩
    · exact .inr ⟨by have := h1.1; omega, by have := h1.2; omega⟩
  · cases h
theorem ops_div : OpS K rDivV vDiv := ops_I (g := fun i j => .int (i / j)) (fun _ _ _ => .int _) fun x y z h => by
  unfold vDiv at h
  split at h
  · rename_i i j
    obtain ⟨h1, h2⟩ := ite_ok h
    have h1 := big_iff.mp h1
    exact ⟨i, j, rfl, rfl, wide_div (i := i) (b := 100) h1.1 (by have := h1.1; have := h1.2; omega) (by decide) (by decide), h2⟩
  · cases h
theorem ops_mod : OpS K rModV vMod := ops_I (g := fun i j => .int (i % j)) (fun _ _ _ => .int _) fun x y z h => by
  unfold vMod at h
  split at h
  · rename_i i j
    obtain ⟨h1, h2⟩ := ite_ok h
    exact ⟨i, j, rfl, rfl, h1, h2⟩
  · cases h
theorem ops_pow : OpS K rPowV vPow := ops_I (g := fun i j => .int (i ^ j.toNat)) (fun _ _ _ => .int _) fun x y z h => by
  unfold vPow at h
  split at h
  · rename_i i j
    obtain ⟨h1, h2⟩ := ite_ok h
    have h1 := big_iff.mp h1
    exact ⟨i, j, rfl, rfl, ⟨h1.1, h1.2.1, by have := h1.2.2; omega⟩, h2⟩
  · cases h
theorem uns_neg : UnS K (rU fun i => .int (-i)) vNeg := by
  intro N H e v x rx Q ⟨z, hz, k⟩
  cases rx with
  | int i => cases hz; exact ⟨i, rfl, k N H (Gr.refl e) _ (.int _)⟩
  | _ => cases hz
theorem eqR_ok {N H : Hp} (e : Sub N H) {v w : V} {x y : Val} {b : Bool} (rx : RV K N v x) (ry : RV K N w y) (h : eqR x y = .ok b) : (L2.scal v w = true ∧ decide (v = w) = b) ∨ ∃ d d', Dp K H v d ∧ Dp K H w d' ∧ SeqAt.shaped d = true ∧ SeqAt.shaped d' = true ∧ PyData.eqv d d' = b := by
  unfold eqR at h
  split at h
  · rename_i hs
    cases h
    exact .inl (rx.scal ry hs)
  · obtain ⟨h1, h2⟩ := ite_ok h
    simp only [Bool.and_eq_true, decide_eq_true_eq] at h1
    obtain ⟨⟨a1, a2⟩, a3, a4⟩ := h1
    refine .inr ⟨toD x, toD y, RV.dp x (rx.mono e) a1, RV.dp y (ry.mono e) a3, shaped_toD a1 a2, shaped_toD a3 a4, ?_⟩
    rw [h2]
    exact eqv_toD x y a1 a3
theorem ops_eq : OpS K (rEqV K) vEq := by
  intro N H e v w x y rx ry Q ⟨z, hz, k⟩
  unfold vEq at hz
  cases hr : eqR x y with
  | bad => rw [hr] at hz; cases hz
  | exc _ => rw [hr] at hz; cases hz
  | ok b =>
    rw [hr] at hz
    cases hz
    rcases eqR_ok e rx ry hr with ⟨h1, h2⟩ | ⟨d, d', h1, h2, h3, h4, h5⟩
    · exact .inl ⟨h1, by rw [h2]; exact k N H (Gr.refl e) _ (.bl _)⟩
    · exact .inr ⟨d, d', h1, h2, h3, h4, by rw [h5]; exact k N H (Gr.refl e) _ (.bl _)⟩
theorem ops_ne : OpS K (rNeV K) vNe := by
  intro N H e v w x y rx ry Q ⟨z, hz, k⟩
  unfold vNe at hz
  cases hr : eqR x y with
  | bad => rw [hr] at hz; cases hz
  | exc _ => rw [hr] at hz; cases hz
  | ok b =>
    rw [hr] at hz
    cases hz
    rcases eqR_ok e rx ry hr with ⟨h1, h2⟩ | ⟨d, d', h1, h2, h3, h4, h5⟩
    · exact .inl ⟨h1, by rw [h2]; exact k N H (Gr.refl e) _ (.bl _)⟩
    · exact .inr ⟨d, d', h1, h2, h3, h4, by rw [h5]; exact k N H (Gr.refl e) _ (.bl _)⟩
theorem in_seq {N H : Hp} (e : Sub N H) {v w : V} {x y : Val} {xs : List Val} (rx : RV K N v x) (ry : RV K N w y) (hy : y = .lst xs ∨ y = .tup xs) (h : (x.isFlat && xs.all Val.isFlat) = true) :
    ∃ p vs, w = .ref p ∧ (SqL K H p vs ∨ SqT K H p vs) ∧ flatV v = true ∧ vs.all flatV = true ∧ inV v vs = inFlat x xs := by
  rw [Bool.and_eq_true] at h
  obtain ⟨h1, h2⟩ := rx.flat h.1
  rcases hy with rfl | rfl
  · cases ry with
    | lst hs r =>
      obtain ⟨h3, h4⟩ := r.flats h.2
      exact ⟨_, _, rfl, .inl (sq_mono e hs), h2, h4, by rw [h1, h3, inV_of h.1 h.2]⟩
  · cases ry with
    | tup hs r =>
      obtain ⟨h3, h4⟩ := r.flats h.2
      exact ⟨_, _, rfl, .inr (st_mono e hs), h2, h4, by rw [h1, h3, inV_of h.1 h.2]⟩
theorem in_cases {x y z : Val} (h : vInS x y = .ok z) : (∃ xs, (y = .lst xs ∨ y = .tup xs) ∧ (x.isFlat && xs.all Val.isFlat) = true ∧ z = .bl (inFlat x xs)) ∨ ∃ c s, x = .str ⟨#[c]⟩ ∧ y = .str s ∧ z = .bl (decide (c ∈ s.cps.toList)) := by
  unfold vInS at h
  split at h
  · obtain ⟨h1, h2⟩ := ite_ok h
    exact .inl ⟨_, .inl rfl, h1, h2⟩
  · obtain ⟨h1, h2⟩ := ite_ok h
    exact .inl ⟨_, .inr rfl, h1, h2⟩
  · rename_i a b
    split at h
    · rename_i c hc
      cases h
      refine .inr ⟨c, b, ?_, rfl, rfl⟩
      obtain ⟨⟨l⟩⟩ := a
      simp only at hc
      rw [hc]
    · cases h
  · cases h
theorem ops_in : OpS K (rInV K) vInS := by
  intro N H e v w x y rx ry Q ⟨z, hz, k⟩
  rcases in_cases hz with ⟨xs, hy, hf, rfl⟩ | ⟨c, s, rfl, rfl, rfl⟩
  · obtain ⟨p, vs, h1, h2, h3, h4, h5⟩ := in_seq e rx ry hy hf
    refine .inl ⟨p, vs, h1, h2, h3, h4, ?_⟩
    rw [h5]
    exact k N H (Gr.refl e) _ (.bl _)
  · cases rx
    cases ry
    exact .inr ⟨c, s, rfl, rfl, k N H (Gr.refl e) _ (.bl _)⟩
theorem ops_notIn : OpS K (rNotInV K) vNotInS := by
  intro N H e v w x y rx ry Q ⟨z, hz, k⟩
  unfold vNotInS at hz
  cases hr : vInS x y with
  | bad => rw [hr] at hz; cases hz
  | exc _ => rw [hr] at hz; cases hz
  | ok b =>
    rw [hr] at hz
    rcases in_cases hr with ⟨xs, hy, hf, rfl⟩ | ⟨c, s, rfl, rfl, rfl⟩
    · cases hz
      obtain ⟨p, vs, h1, h2, h3, h4, h5⟩ := in_seq e rx ry hy hf
      refine .inl ⟨p, vs, h1, h2, h3, h4, ?_⟩
      rw [h5]
      exact k N H (Gr.refl e) _ (.bl _)
    · cases hz
      cases rx
      cases ry
      exact .inr ⟨c, s, rfl, rfl, k N H (Gr.refl e) _ (.bl _)⟩
theorem RV.nonV {N : Hp} {v : V} {x : Val} (r : RV K N v x) : decide (v = .non) = (match x with | .non => true | _ => false) := by cases r <;> first | rfl | simp
theorem ops_is : OpS K rIsN vIs := by
  intro N H e v w x y rx ry Q ⟨z, hz, k⟩
  cases ry with
  | non =>
    refine ⟨rfl, ?_⟩
    rw [rx.nonV]
    cases rx <;> (cases hz; exact k N H (Gr.refl e) _ (.bl _))
  | _ => cases rx <;> cases hz
theorem ops_isNot : OpS K rNotN vIsNot := by
  intro N H e v w x y rx ry Q ⟨z, hz, k⟩
  cases ry with
  | non =>
    refine ⟨rfl, ?_⟩
    rw [rx.nonV]
    cases rx <;> (cases hz; exact k N H (Gr.refl e) _ (.bl _))
  | _ => cases rx <;> cases hz
end
end Vm

/-! The value machine over HandS: subscripts, slices, targets, what is walked, comprehensions. -/
namespace Vm
open PySem L2
section
variable {K : PySem.W.Frag} {C : Cn}
/-! ### subscripts, slices -/
theorem ops_ix : OpS K (rIx K) vIxS := by
  intro N H e v w x y rx ry Q ⟨z, hz, k⟩
  cases rx with
  | lst h r =>
    cases ry with
    | int i =>
      simp only [vIxS] at hz
      cases ha : Vm.atI _ i with
      | none => rw [ha] at hz; cases hz
      | some y =>
        rw [ha] at hz
        cases hz
        unfold Vm.atI at ha
        cases hj : ixNat _ i with
        | none => rw [hj] at ha; cases ha
        | some j =>
          rw [hj] at ha
          obtain ⟨u, h1, h2⟩ := r.get (show _[j]? = some z from ha)
          refine .inl ⟨_, _, i, u, rfl, rfl, sq_mono e h, ?_, k N H (Gr.refl e) u h2⟩
          unfold L2.atI
          rw [r.length, show L2.ixN _ i = some j from hj]
          exact h1
    | _ => cases hz
  | tup h r =>
    cases ry with
    | int i =>
      simp only [vIxS] at hz
      cases ha : Vm.atI _ i with
      | none => rw [ha] at hz; cases hz
      | some y =>
        rw [ha] at hz
        cases hz
        unfold Vm.atI at ha
        cases hj : ixNat _ i with
        | none => rw [hj] at ha; cases ha
        | some j =>
          rw [hj] at ha
          obtain ⟨u, h1, h2⟩ := r.get (show _[j]? = some z from ha)
          refine .inr (.inl ⟨_, _, i, u, rfl, rfl, st_mono e h, ?_, k N H (Gr.refl e) u h2⟩)
          unfold L2.atI
          rw [r.length, show L2.ixN _ i = some j from hj]
          exact h1
    | _ => cases hz
  | str s =>
    cases ry with
    | int i =>
      simp only [vIxS] at hz
      split at hz
      · rename_i hl
        cases ha : Vm.atI s.cps.toList i with
        | none => rw [ha] at hz; cases hz
        | some c =>
          rw [ha] at hz
          cases hz
          exact .inr (.inr ⟨s, i, c, rfl, rfl, len_line hl, ha, k N H (Gr.refl e) _ (.str _)⟩)
      · cases hz
    | _ => cases hz
  | _ => cases ry <;> cases hz
def rSlV (K : PySem.W.Frag) : V → Option Int → Option Int → Hp → VK → Prop := fun x lo hi H Q => rSlL K x lo hi H Q ∨ (rSlT K x lo hi H Q ∨ rSlS x lo hi H Q)
theorem sl_V {X : Cx} : SlR X (rSlV X.K) := sl_list.or (sl_tup.or sl_str)
def SlS (K : PySem.W.Frag) (r : V → Option Int → Option Int → Hp → VK → Prop) : Prop := ∀ N H, Sub N H → ∀ v x lo hi, RV K N v x → ∀ Q : VK, (∃ z, vCut x lo hi = .ok z ∧ ∀ N' H', Gr N H N' H' → ∀ u, RV K N' u z → Q u H') → r v lo hi H Q
theorem RVs.cut {N : Hp} {vs : List V} {xs : List Val} (r : RVs K N vs xs) (lo hi : Option Int) : RVs K N (cutV vs lo hi) (Vm.cut xs lo hi) := by
  unfold cutV Vm.cut
  rw [r.length]
  exact (r.drop _).take _
theorem sls : SlS K (rSlV K) := by
  intro N H e v x lo hi rx Q ⟨z, hz, k⟩
  cases rx with
  | lst h r =>
    cases hz
    refine .inl ⟨_, _, rfl, sq_mono e h, fun p hp => ?_⟩
    exact k _ _ (Gr.new e hp) _ (.lst (SqL.of upd_same) ((r.cut lo hi).mono (Gr.new e hp).nn))
  | tup h r =>
    simp only [vCut] at hz
    split at hz
    · cases hz
    · rename_i hw
      cases hz
      refine .inr (.inl ⟨_, _, rfl, st_mono e h, by rw [r.length]; exact hw, fun p hp => ?_⟩)
      exact k _ _ (Gr.new e hp) _ (.tup (SqT.of upd_same) ((r.cut lo hi).mono (Gr.new e hp).nn))
  | str s =>
    simp only [vCut] at hz
    split at hz
    · rename_i hl
      cases hz
      exact .inr (.inr ⟨s, rfl, len_line hl, k N H (Gr.refl e) _ (.str _)⟩)
    · cases hz
  | _ => cases hz
theorem nx_cut (x : Val) (l h : Option Int) : NX (vCut x l h) := by
  unfold vCut
  split
  · exact nx_ok
  · exact nx_ite nx_ok nx_bad
  · exact nx_ite nx_bad nx_ok
  · exact nx_bad
/-- a slice's part -/
def EvO (K : PySem.W.Frag) (C : Cn) (to : TO) (m : Option EX) : Prop := ∀ N H σ env, Sub N H → SV K N σ env → ∀ Q : Option Int → Hp → Prop, PostR C σ N H (partOf m env) (fun x _ H' => Q x H') → to σ H Q
theorem eo_none : EvO K C tNoPart none := fun N H σ env e s Q h => PostR.now (P := fun x _ H' => Q x H') e h
theorem eo_some {ta : TE} {ma : EX} (ha : EvE K C ta ma) : EvO K C (tPart ta) (some ma) := fun N H σ env e s Q h => by
  refine ha N H σ env e s _ (PostR.imp (PostR.bind h) fun x N1 H1 g1 h1 v rv => ?_)
  cases rv with
  | int i => exact ⟨i, rfl, PostR.now (P := fun x _ H' => Q x H') g1.nh h1⟩
  | _ => exact h1.elim
theorem ev_cut {ta : TE} {ma : EX} {tl th : TO} {lo hi : Option EX} (ha : EvE K C ta ma) (hl : EvO K C tl lo) (hh : EvO K C th hi) : EvE K C (tSl (rSlV K) ta tl th) (eCut ma lo hi) := fun N H σ env e s Q h => by
  refine ha N H σ env e s _ (PostR.imp (PostR.bind h) fun x N1 H1 g1 h1 v rv => ?_)
  have s1 := s.mono g1.nn
  refine hl N1 H1 σ env g1.nh s1 _ (PostR.imp (PostR.bind h1) fun l N2 H2 g2 h2 => ?_)
  refine hh N2 H2 σ env g2.nh (s1.mono g2.nn) _ (PostR.imp (PostR.bind h2) fun u N3 H3 g3 h3 => ?_)
  exact sls N3 H3 g3.nh v x l u ((rv.mono g2.nn).mono g3.nn) Q (h3.val (nx_cut x l u))
end

/-! ### targets -/
def setsE (env : Env) (l : List (Nat × V × Val)) : Env := l.foldl (fun e t => e.set t.1 (.sh t.2.2)) env
def setsS (σ : L2.St) (l : List (Nat × V × Val)) : L2.St := l.foldl (fun s t => s.set t.1 (some t.2.1)) σ
def EvP (K : PySem.W.Frag) (g : TG) (put : Put) (is : List Nat) : Prop := ∀ N H σ env v x env', Sub N H → RV K N v x → put x env = .ok env' → ∀ Q : L2.St → Hp → Prop, (∀ l : List (Nat × V × Val), (∀ t ∈ l, t.1 ∈ is ∧ RV K N t.2.1 t.2.2) → env' = setsE env l → Q (setsS σ l) H) → g v σ H Q
def EvPs (K : PySem.W.Frag) (g : TGs) (is : List Nat) : Prop := ∀ N H σ env vs xs env', Sub N H → RVs K N vs xs → putAll is xs env = .ok env' → ∀ Q : L2.St → Hp → Prop, (∀ l : List (Nat × V × Val), (∀ t ∈ l, t.1 ∈ is ∧ RV K N t.2.1 t.2.2) → env' = setsE env l → Q (setsS σ l) H) → g vs σ H Q
section
variable {K : PySem.W.Frag}
theorem pName_ok {i : Nat} {x : Val} {env env' : Env} (h : pName i x env = .ok env') : i < env.length ∧ env' = env.set i (.sh x) := ite_ok h
theorem ep_name {i : Nat} : EvP K (gName i) (pName i) [i] := fun N H σ env v x env' e r hp Q k => by
  obtain ⟨_, rfl⟩ := pName_ok hp
  exact k [(i, v, x)] (fun t ht => by rw [List.mem_singleton] at ht; subst ht; exact ⟨List.mem_singleton.mpr rfl, r⟩) rfl
theorem eps_nil : EvPs K gNil [] := fun N H σ env vs xs env' e r hp Q k => by
  cases r with
  | nil =>
    cases hp
    exact ⟨rfl, k [] (fun t ht => by cases ht) rfl⟩
  | cons _ _ => cases hp
theorem eps_cons {i : Nat} {is : List Nat} {g : TGs} (h : EvPs K g is) : EvPs K (gCons (gName i) g) (i :: is) := fun N H σ env vs xs env' e r hp Q k => by
  cases r with
  | nil => cases hp
  | @cons v vs x xs r1 r2 =>
    have hp' : ((pName i x env).bind fun e => putAll is xs e) = .ok env' := hp
    cases hn : pName i x env with
    | bad => rw [hn] at hp'; cases hp'
    | exc q => rw [hn] at hp'; cases hp'
    | ok e1 =>
      rw [hn] at hp'
      obtain ⟨_, rfl⟩ := pName_ok hn
      refine ⟨v, vs, rfl, ?_⟩
      refine h N H (σ.set i (some v)) _ vs xs env' e r2 hp' Q fun l hl he => ?_
      exact k ((i, v, x) :: l) (fun t ht => by
        rcases List.mem_cons.mp ht with rfl | ht
        · exact ⟨List.mem_cons_self, r1⟩
        · exact ⟨List.mem_cons_of_mem _ (hl t ht).1, (hl t ht).2⟩) he
theorem putAll_len : ∀ {is : List Nat} {xs : List Val} {env env' : Env}, putAll is xs env = .ok env' → xs.length = is.length
  | [], [], _, _, _ => rfl
  | [], _ :: _, _, _, h => by cases h
  | _ :: _, [], _, _, h => by cases h
  | i :: is, x :: xs, env, env', h => by
    have h' : ((pName i x env).bind fun e => putAll is xs e) = .ok env' := h
    cases hn : pName i x env with
    | bad => rw [hn] at h'; cases h'
    | exc q => rw [hn] at h'; cases h'
    | ok e1 =>
      rw [hn] at h'
      rw [List.length_cons, List.length_cons, putAll_len h']
theorem ep_tup {is : List Nat} {g : TGs} (h : EvPs K g is) : EvP K (gTup K is.length g) (pTup is) is := fun N H σ env v x env' e r hp Q k => by
  cases r with
  | tup hs rs =>
    have hp' : putAll is _ env = .ok env' := hp
    exact ⟨_, _, rfl, st_mono e hs, by rw [rs.length, putAll_len hp'], h N H σ env _ _ env' e rs hp' Q k⟩
  | _ => cases hp
theorem ep_tupL {is : List Nat} {g : TGs} (h : EvPs K g is) : EvP K (gLst K is.length g) (pTupL is) is := fun N H σ env v x env' e r hp Q k => by
  cases r with
  | lst hs rs =>
    have hp' : putAll is _ env = .ok env' := hp
    exact ⟨_, _, rfl, sq_mono e hs, by rw [rs.length, putAll_len hp'], h N H σ env _ _ env' e rs hp' Q k⟩
  | _ => cases hp
theorem SV.sets {N : Hp} : ∀ {l : List (Nat × V × Val)} {σ : L2.St} {env : Env}, SV K N σ env → (∀ t ∈ l, RV K N t.2.1 t.2.2) → SV K N (setsS σ l) (setsE env l)
  | [], _, _, s, _ => s
  | t :: l, σ, env, s, h => SV.sets (l := l) (s.set_sh (h t List.mem_cons_self)) fun t' ht => h t' (List.mem_cons_of_mem _ ht)
theorem wipe_set {σ : L2.St} {i : Nat} {s : Option V} : ∀ {vs : List Nat}, i ∈ vs → L2.wipe (σ.set i s) vs = L2.wipe σ vs
  | [], h => by cases h
  | v :: vs, h => by
    show (L2.wipe (σ.set i s) vs).set v none = (L2.wipe σ vs).set v none
    by_cases hv : i ∈ vs
    · rw [wipe_set hv]
    · have e : i = v := by
        rcases List.mem_cons.mp h with h | h
        · exact h
        · exact absurd h hv
      subst e
      have : ∀ (ws : List Nat), i ∉ ws → (L2.wipe (σ.set i s) ws) = (L2.wipe σ ws).set i s := by
        intro ws
        induction ws with
        | nil => intro _; rfl
        | cons w ws ih =>
          intro hw
          rw [List.mem_cons, not_or] at hw
          show (L2.wipe (σ.set i s) ws).set w none = ((L2.wipe σ ws).set w none).set i s
          rw [ih hw.2, List.set_comm]
          exact hw.1
      rw [this vs hv, List.set_set]
theorem wipe_wipe {σ : L2.St} : ∀ {vs ws : List Nat}, (∀ v ∈ ws, v ∈ vs) → L2.wipe (L2.wipe σ ws) vs = L2.wipe σ vs
  | vs, [], _ => rfl
  | vs, w :: ws, h => by
    show L2.wipe ((L2.wipe σ ws).set w none) vs = L2.wipe σ vs
    rw [wipe_set (h w List.mem_cons_self), wipe_wipe fun v hv => h v (List.mem_cons_of_mem _ hv)]
theorem wipe_sets {vs : List Nat} : ∀ {l : List (Nat × V × Val)} {σ : L2.St}, (∀ t ∈ l, t.1 ∈ vs) → L2.wipe (setsS σ l) vs = L2.wipe σ vs
  | [], _, _ => rfl
  | t :: l, σ, h => by
    show L2.wipe (setsS (σ.set t.1 (some t.2.1)) l) vs = _
    rw [wipe_sets (l := l) fun t' ht => h t' (List.mem_cons_of_mem _ ht), wipe_set (h t List.mem_cons_self)]
end

/-! ### what is walked -/
def WalkV (K : PySem.W.Frag) (N : Hp) (J : It) (xs : List Val) : Prop := ∃ G Y, Walk J xs.length G Y ∧ (∀ H, Sub N H → G H) ∧ ∀ i H v H', i < xs.length → Sub N H → Y i H v H' → ∃ N' x, Gr N H N' H' ∧ xs[i]? = some x ∧ RV K N' v x
def EvI (K : PySem.W.Frag) (C : Cn) (wi : TI) (m : EI) : Prop := ∀ N H σ env, Sub N H → SV K N σ env → ∀ R : It → Hp → Prop, PostR C σ N H (m env) (fun xs N' H' => ∀ J, WalkV K N' J xs → R J H') → wi σ H R
structure SI (X : Cx) (C : Cn) (tg e : Expr) (wi : TI) (m : EI) : Prop where
  pi : PI X tg e wi
  ev : EvI X.K C wi m
section
variable {K : PySem.W.Frag} {C : Cn}
theorem walkV_list {N : Hp} {a : Addr} {vs : List V} {xs : List Val} (h : SqL K N a vs) (r : RVs K N vs xs) : WalkV K N (Itl K a) xs := by
  refine ⟨_, _, by rw [← r.length]; exact walk_list, fun H e => sq_mono e h, fun i H v H' hi e y => ?_⟩
  obtain ⟨rfl, hv⟩ := y
  obtain ⟨x, h1, h2⟩ := r.getV hv
  exact ⟨N, x, Gr.refl e, h1, h2⟩
theorem walkV_tup {N : Hp} {a : Addr} {vs : List V} {xs : List Val} (h : SqT K N a vs) (r : RVs K N vs xs) : WalkV K N (Itt K a) xs := by
  refine ⟨_, _, by rw [← r.length]; exact walk_tup, fun H e => st_mono e h, fun i H v H' hi e y => ?_⟩
  obtain ⟨rfl, hv⟩ := y
  obtain ⟨x, h1, h2⟩ := r.getV hv
  exact ⟨N, x, Gr.refl e, h1, h2⟩
theorem walkV_range {N : Hp} {lo : Int} {n : Nat} : WalkV K N (Itr lo n) (rangeL lo n) := by
  have hl : (rangeL lo n).length = n := by unfold rangeL; rw [List.length_map, List.length_range]
  refine ⟨_, _, by rw [hl]; exact walk_range, fun _ _ => trivial, fun i H v H' hi e y => ?_⟩
  obtain ⟨rfl, rfl⟩ := y
  rw [hl] at hi
  refine ⟨N, .int (lo + (i : Int)), Gr.refl e, ?_, .int _⟩
  unfold rangeL
  rw [List.getElem?_map, List.getElem?_range hi]
  rfl
theorem walkV_str {N : Hp} {z : Str} : WalkV K N (Its z) (z.cps.toList.map fun c => .str ⟨#[c]⟩) := by
  have hl : (z.cps.toList.map fun c => Val.str ⟨#[c]⟩).length = z.cps.size := by rw [List.length_map, Array.length_toList]
  refine ⟨_, _, by rw [hl]; exact walk_str, fun _ _ => trivial, fun i H v H' hi e y => ?_⟩
  obtain ⟨rfl, c, hc, rfl⟩ := y
  refine ⟨N, .str ⟨#[c]⟩, Gr.refl e, ?_, .str _⟩
  rw [List.getElem?_map, Array.getElem?_toList, hc]
  rfl
/-- a list, a tuple or a text, walked -/
def iSeqT (K : PySem.W.Frag) (tl : TE) : TI := fun σ H R => tl σ H fun x H1 => (∃ a, x = .ref a ∧ (∃ xs, SqL K H1 a xs) ∧ R (Itl K a) H1) ∨ (∃ a, x = .ref a ∧ (∃ xs, SqT K H1 a xs) ∧ R (Itt K a) H1) ∨ ∃ z, x = .str z ∧ R (Its z) H1
theorem PIE.of_list {X : Cx} {tg l : Expr} {pins : List (Addr × Obj)} {σ : L2.St} {H1 : Hp} {s1 : Shared} {R : It → Hp → Prop} {a : Addr} {xs : List V} (I1 : Inv X pins σ H1 s1) (hq : SqL X.K H1 a xs) (q : R (Itl X.K a) H1) :
    wpAny (model X.prog X.w) X.A (pyIter (.ref a)) (PIE X pins σ tg R) X.xe s1 := by
  obtain ⟨its, rv, p, hz⟩ := I1.list hq
  refine wpAny_pyIter_list p.isList ?_
  refine ⟨s1.heap.objs.size, [s1.heap.objs.size], _, _, H1, rfl, I1.kept (t' := s1.toks) fun b o e => Heap.get?_push_of_some _ e, turn_list a _, ⟨_, Heap.get?_push_size _ rfl, rfl, rfl⟩, fun b hb => ?_, q⟩
  have e : b = s1.heap.objs.size := by simpa using hb
  subst e
  exact I1.fpOk (Nat.le_refl _) (I1.hok.fresh (Nat.le_refl _))
theorem PIE.of_tup {X : Cx} {tg l : Expr} {pins : List (Addr × Obj)} {σ : L2.St} {H1 : Hp} {s1 : Shared} {R : It → Hp → Prop} {a : Addr} {xs : List V} (I1 : Inv X pins σ H1 s1) (hq : SqT X.K H1 a xs) (q : R (Itt X.K a) H1) :
    wpAny (model X.prog X.w) X.A (pyIter (.ref a)) (PIE X pins σ tg R) X.xe s1 := by
  obtain ⟨its, rv, p, hz⟩ := I1.tuple hq
  refine wpAny_pyIter_tuple (show s1.heap.IsTuple a its.toArray from p) ?_
  refine ⟨s1.heap.objs.size, [s1.heap.objs.size], _, _, H1, rfl, I1.kept (t' := s1.toks) fun b o e => Heap.get?_push_of_some _ e, turn_tuple a _, ⟨_, Heap.get?_push_size _ rfl, rfl, rfl⟩, fun b hb => ?_, q⟩
  have e : b = s1.heap.objs.size := by simpa using hb
  subst e
  exact I1.fpOk (Nat.le_refl _) (I1.hok.fresh (Nat.le_refl _))
/-- two ways of what a value gives, one walk -/
theorem pi_seqT {X : Cx} {tg l : Expr} {tl : TE} (hl : PE X l tl) : PI X tg l (iSeqT X.K tl) := by
  refine ⟨fun pins s σ H R I h => ?_⟩
  refine thn (hl.run pins s σ H _ I h) fun v s1 ⟨x, H1, I1, r1, q1⟩ => ?_
  rcases q1 with ⟨a, e, ⟨xs, hq⟩, q⟩ | ⟨a, e, ⟨xs, hq⟩, q⟩ | ⟨z, e, q⟩
  · subst e
    cases r1
    exact PIE.of_list (l := l) I1 hq q
  · subst e
    cases r1
    exact PIE.of_tup (l := l) I1 hq q
  · subst e
    obtain ⟨t, rfl⟩ := r1
    cases ha : z.cps.all (· < 128)
    · exact wpAny_pyIter_wide ha (pi_one (tk := s1.toks) I1 _ (turn_str _ z t "str_iterator" (.inr rfl)) ⟨_, Heap.get?_push_size _ rfl, rfl, rfl⟩ q)
    · exact wpAny_pyIter_ascii ha (pi_one (tk := s1.toks) I1 _ (turn_str _ z t "str_ascii_iterator" (.inl rfl)) ⟨_, Heap.get?_push_size _ rfl, rfl, rfl⟩ q)
theorem ei_seq {ta : TE} {ma : EX} (ha : EvE K C ta ma) : EvI K C (iSeqT K ta) (iSeq ma) := fun N H σ env e s R h => by
  refine ha N H σ env e s _ (PostR.imp (PostR.bind h) fun x N1 H1 g1 h1 v rv => ?_)
  cases rv with
  | lst hs r => exact .inl ⟨_, rfl, ⟨_, sq_mono g1.nh hs⟩, h1 N1 H1 (Gr.refl g1.nh) _ (walkV_list hs r)⟩
  | tup hs r => exact .inr (.inl ⟨_, rfl, ⟨_, st_mono g1.nh hs⟩, h1 N1 H1 (Gr.refl g1.nh) _ (walkV_tup hs r)⟩)
  | str z => exact .inr (.inr ⟨z, rfl, h1 N1 H1 (Gr.refl g1.nh) _ walkV_str⟩)
  | _ => exact h1.elim
theorem smallI_ok {i : Int} (h : smallI i = true) : -(2 ^ 62) ≤ i ∧ i < 2 ^ 62 := by
  have h := big_iff.mp h
  exact ⟨by have := h.1; omega, by have := h.2; omega⟩
theorem PostR.ite {α : Type} {σ : L2.St} {N H : Hp} {c : Prop} [Decidable c] {a : α} {P : α → Hp → Hp → Prop} (h : PostR C σ N H (if c then .ok a else .bad) P) : c ∧ PostR C σ N H (.ok a) P := by
  split at h
  · rename_i hc; exact ⟨hc, h⟩
  · exact h.elim
theorem ei_range1 {ta : TE} {ma : EX} (ha : EvE K C ta ma) : EvI K C (iRng1 (tCons ta tNil)) (iRange1 ma) := fun N H σ env e s R h => by
  refine ha N H σ env e s _ (PostR.imp (PostR.bind h) fun x N1 H1 g1 h1 v rv => ?_)
  cases rv with
  | int j =>
    obtain ⟨hs, h2⟩ := PostR.ite h1
    obtain ⟨s1, s2⟩ := smallI_ok hs
    exact ⟨j, rfl, s1, s2, h2 N1 H1 (Gr.refl g1.nh) _ walkV_range⟩
  | _ => exact h1.elim
theorem ei_range2 {ta tb : TE} {ma mb : EX} (ha : EvE K C ta ma) (hb : EvE K C tb mb) : EvI K C (iRng2 (tCons ta (tCons tb tNil))) (iRange2 ma mb) := fun N H σ env e s R h => by
  refine ha N H σ env e s _ (PostR.imp (PostR.bind h) fun x N1 H1 g1 h1 v rv => ?_)
  refine hb N1 H1 σ env g1.nh (s.mono g1.nn) _ (PostR.imp (PostR.bind h1) fun y N2 H2 g2 h2 w rw' => ?_)
  cases rv with
  | int i =>
    cases rw' with
    | int j =>
      obtain ⟨hs, h3⟩ := PostR.ite h2
      rw [Bool.and_eq_true] at hs
      obtain ⟨s1, s2⟩ := smallI_ok hs.1
      obtain ⟨s3, s4⟩ := smallI_ok hs.2
      exact ⟨i, j, rfl, ⟨s1, s2, s3, s4⟩, h3 N2 H2 (Gr.refl g2.nh) _ walkV_range⟩
    | _ => exact h2.elim
  | _ => exact h2.elim
theorem enumL_get : ∀ (xs : List Val) (n i : Nat), (enumL n xs)[i]? = xs[i]?.map fun x => .tup [.int ((n + i : Nat) : Int), x]
  | [], n, i => by simp [enumL]
  | x :: xs, n, 0 => by simp [enumL]
  | x :: xs, n, i + 1 => by
    show (enumL (n + 1) xs)[i]? = _
    rw [enumL_get xs (n + 1) i, List.getElem?_cons_succ, show n + 1 + i = n + (i + 1) by omega]
theorem enumL_len : ∀ (xs : List Val) (n : Nat), (enumL n xs).length = xs.length
  | [], _ => rfl
  | x :: xs, n => congrArg (· + 1) (enumL_len xs (n + 1))
theorem zipL_get : ∀ (xs ys : List Val) (i : Nat) (x y : Val), xs[i]? = some x → ys[i]? = some y → (zipL xs ys)[i]? = some (.tup [x, y])
  | [], _, i, x, y, h, _ => by simp at h
  | _ :: _, [], i, x, y, _, h => by simp at h
  | a :: xs, b :: ys, 0, x, y, h, h' => by simp at h h'; subst h h'; rfl
  | a :: xs, b :: ys, i + 1, x, y, h, h' => zipL_get xs ys i x y (by simpa using h) (by simpa using h')
theorem zipL_len : ∀ (xs ys : List Val), (zipL xs ys).length = min xs.length ys.length
  | [], _ => by simp [zipL]
  | _ :: _, [] => by simp [zipL]
  | _ :: xs, _ :: ys => by
    show (zipL xs ys).length + 1 = _
    rw [zipL_len xs ys, List.length_cons, List.length_cons]
    omega
theorem walkV_enum {N : Hp} {a : Addr} {vs : List V} {xs : List Val} (h : SqL K N a vs) (r : RVs K N vs xs) : WalkV K N (Ite K a) (enumL 0 xs) := by
  refine ⟨_, _, by rw [enumL_len, ← r.length]; exact walk_enum, fun H e => sq_mono e h, fun i H v H' hi e y => ?_⟩
  obtain ⟨T, x, z, rfl, hT, rfl, h1, h2⟩ := y
  cases h1
  obtain ⟨u, h3, h4⟩ := r.getV h2
  have g := Gr.new (o := .tup [.int (i : Nat), z]) e hT
  refine ⟨_, .tup [.int ((0 + i : Nat) : Int), u], g, by rw [enumL_get, h3]; rfl, ?_⟩
  rw [Nat.zero_add]
  exact .tup (SqT.of upd_same) (.cons (.int _) (.cons (h4.mono g.nn) .nil))
theorem walkV_zip {N : Hp} {a b : Addr} {vs ws : List V} {xs ys : List Val} (h : SqL K N a vs) (h' : SqL K N b ws) (r : RVs K N vs xs) (r' : RVs K N ws ys) : WalkV K N (Itz K a b) (zipL xs ys) := by
  refine ⟨fun H => SqL K H a vs ∧ SqL K H b ws, _, by rw [zipL_len, ← r.length, ← r'.length]; exact walk_zip rfl, fun H e => ⟨sq_mono e h, sq_mono e h'⟩, fun i H v H' hi e y => ?_⟩
  obtain ⟨T, x, z, rfl, hT, rfl, h1, h2⟩ := y
  obtain ⟨u, h3, h4⟩ := r.getV h1
  obtain ⟨u', h5, h6⟩ := r'.getV h2
  have g := Gr.new (o := .tup [x, z]) e hT
  exact ⟨_, _, g, zipL_get xs ys i u u' h3 h5, .tup (SqT.of upd_same) (.cons (h4.mono g.nn) (.cons (h6.mono g.nn) .nil))⟩
theorem ei_enum {ta : TE} {ma : EX} (ha : EvE K C ta ma) : EvI K C (iEnum K (tCons ta tNil)) (iEnumV ma) := fun N H σ env e s R h => by
  refine ha N H σ env e s _ (PostR.imp (PostR.bind h) fun x N1 H1 g1 h1 v rv => ?_)
  cases rv with
  | lst hs r => exact ⟨_, _, rfl, sq_mono g1.nh hs, h1 N1 H1 (Gr.refl g1.nh) _ (walkV_enum hs r)⟩
  | _ => exact h1.elim
theorem ei_zip {ta tb : TE} {ma mb : EX} (ha : EvE K C ta ma) (hb : EvE K C tb mb) : EvI K C (iZip K (tCons ta (tCons tb tNil))) (iZipV ma mb) := fun N H σ env e s R h => by
  refine ha N H σ env e s _ (PostR.imp (PostR.bind h) fun x N1 H1 g1 h1 v rv => ?_)
  refine hb N1 H1 σ env g1.nh (s.mono g1.nn) _ (PostR.imp (PostR.bind h1) fun y N2 H2 g2 h2 w rw' => ?_)
  have rv2 := rv.mono g2.nn
  cases rv2 with
  | lst hs r =>
    cases rw' with
    | lst hs' r' => exact ⟨_, _, _, _, rfl, sq_mono g2.nh hs, sq_mono g2.nh hs', h2 N2 H2 (Gr.refl g2.nh) _ (walkV_zip hs hs' r r')⟩
    | _ => exact h2.elim
  | _ => exact h2.elim
end

/-! ### comprehensions -/
abbrev C0 (C : Cn) : Cn := { C with W := none }
theorem PostR.nx {α : Type} {C : Cn} {σ : L2.St} {N H : Hp} {r : Res α} {P : α → Hp → Hp → Prop} (h : PostR C σ N H r.nx P) : ∃ x, r = .ok x ∧ ∀ N' H', Gr N H N' H' → P x N' H' := by
  cases r with
  | ok x => exact ⟨x, rfl, h⟩
  | exc e => exact h.elim
  | bad => exact h.elim
theorem nx_eq_ok {α : Type} {r : Res α} {x : α} (h : r.nx = .ok x) : r = .ok x := by
  cases r with
  | ok a => exact h
  | exc e => cases h
  | bad => cases h
section
variable {K : PySem.W.Frag} {C : Cn}
/-- one turn's way through the comprehension -/
theorem compL_cons {put : Put} {tt : EB} {el : EX} {env : Env} {x : Val} {xs r : List Val} (h : compL put tt el env (x :: xs) = .ok r) :
    ∃ e b, put x env = .ok e ∧ tt e = .ok b ∧ ((b = true ∧ ∃ y r', el e = .ok y ∧ compL put tt el env xs = .ok r' ∧ r = y :: r') ∨ (b = false ∧ compL put tt el env xs = .ok r)) := by
  unfold compL at h
  cases h1 : put x env with
  | bad => rw [h1] at h; cases h
  | exc q => rw [h1] at h; cases h
  | ok e =>
    rw [h1] at h
    replace h : ((tt e).nx.bind fun b => bif b then (el e).nx.bind fun y => (compL put tt el env xs).bind fun r => .ok (y :: r) else compL put tt el env xs) = .ok r := h
    cases h2 : tt e with
    | bad => rw [h2] at h; cases h
    | exc q => rw [h2] at h; cases h
    | ok b =>
      rw [h2] at h
      refine ⟨e, b, rfl, h2, ?_⟩
      cases b with
      | false => exact .inr ⟨rfl, h⟩
      | true =>
        replace h : ((el e).nx.bind fun y => (compL put tt el env xs).bind fun r => .ok (y :: r)) = .ok r := h
        cases h3 : el e with
        | bad => rw [h3] at h; cases h
        | exc q => rw [h3] at h; cases h
        | ok y =>
          rw [h3] at h
          replace h : ((compL put tt el env xs).bind fun r => .ok (y :: r)) = .ok r := h
          cases h4 : compL put tt el env xs with
          | bad => rw [h4] at h; cases h
          | exc q => rw [h4] at h; cases h
          | ok r' =>
            rw [h4] at h
            cases h
            exact .inl ⟨rfl, y, r', rfl, rfl, rfl⟩
theorem compL_len {put : Put} {tt : EB} {el : EX} {env : Env} : ∀ {xs r : List Val}, compL put tt el env xs = .ok r → r.length ≤ xs.length
  | [], r, h => by cases h; exact Nat.le_refl _
  | x :: xs, r, h => by
    obtain ⟨e, b, _, _, h1 | h1⟩ := compL_cons h
    · obtain ⟨_, y, r', _, h2, rfl⟩ := h1
      have := compL_len h2
      simp only [List.length_cons]
      omega
    · have := compL_len h1.2
      simp only [List.length_cons]
      omega
theorem ef_comp_at {wi : TI} {it : EI} {g : TG} {put : Put} {is own : List Nat} {tt : TT} {te : TE} {mt : EB} {me : EX} {N H : Hp} {σ : L2.St} {env : Env} (hi : ∀ R : It → Hp → Prop, PostR C σ N H (it env) (fun xs N' H' => ∀ J, WalkV K N' J xs → R J H') → wi σ H R) (hp : EvP K g put is) (hsub : ∀ i ∈ is, i ∈ own)
    (ht : EvB K (C0 C) tt mt) (he : EvE K (C0 C) te me) (e : Sub N H) (s : SV K N σ env) (Q : VK) (h : PostR C σ N H (eComp it own put mt me env) (fun x N' H' => ∃ xs, x = .lst xs ∧ ∀ p vs, H' p = none → RVs K N' vs xs → Q (.ref p) (upd H' p (.lst vs)))) : tLc wi g tt te own σ H Q := by
  refine hi _ (PostR.imp (PostR.bind h) fun xs N1 H1 g1 h1 J hJ => ?_)
  intro D hD
  split at h1
  · rename_i hsz
    obtain ⟨G, Y, w, hG, hY⟩ := hJ
    cases hc : compL put mt me (wipeE env own) xs with
    | bad => rw [hc] at h1; exact h1.elim
    | exc q =>
      exfalso
      have : ∀ (xs : List Val), compL put mt me (wipeE env own) xs ≠ .exc q := by
        intro xs
        induction xs with
        | nil => intro h; cases h
        | cons x xs ih =>
          intro h
          unfold compL at h
          cases h1 : put x (wipeE env own) with
          | bad => rw [h1] at h; cases h
          | exc q => rw [h1] at h; cases h
          | ok e =>
            rw [h1] at h
            replace h : ((mt e).nx.bind fun b => bif b then (me e).nx.bind fun y => (compL put mt me (wipeE env own) xs).bind fun r => .ok (y :: r) else compL put mt me (wipeE env own) xs) = .exc q := h
            cases h2 : mt e with
            | bad => rw [h2] at h; cases h
            | exc q => rw [h2] at h; cases h
            | ok b =>
              rw [h2] at h
              cases b with
              | false => exact ih h
              | true =>
                replace h : ((me e).nx.bind fun y => (compL put mt me (wipeE env own) xs).bind fun r => .ok (y :: r)) = .exc q := h
                cases h3 : me e with
                | bad => rw [h3] at h; cases h
                | exc q => rw [h3] at h; cases h
                | ok y =>
                  rw [h3] at h
                  replace h : ((compL put mt me (wipeE env own) xs).bind fun r => .ok (y :: r)) = .exc q := h
                  cases h4 : compL put mt me (wipeE env own) xs with
                  | bad => rw [h4] at h; cases h
                  | exc q' => rw [h4] at h; cases h; exact ih h4
                  | ok r' => rw [h4] at h; cases h
      exact this xs hc
    | ok r =>
      rw [hc] at h1
      have fin : ∀ N' H', Gr N1 H1 N' H' → ∀ p vs, H' p = none → RVs K N' vs r → Q (.ref p) (upd H' p (.lst vs)) := fun N' H' g p vs => by
        obtain ⟨ys, e1, h2⟩ := (show ∀ N' H', Gr N1 H1 N' H' → ∃ ys, Val.lst r = .lst ys ∧ ∀ p vs, H' p = none → RVs K N' vs ys → Q (.ref p) (upd H' p (.lst vs)) from h1) N' H' g
        cases e1
        exact h2 p vs
      have s1 : SV K N1 σ env := s.mono g1.nn
      refine lc_it w (fun i H' => ∃ N' Hn acc ys rest, Gr N1 H1 N' Hn ∧ Hn D = none ∧ H' = upd Hn D (.lst acc) ∧ RVs K N' acc ys ∧ acc.length ≤ i ∧ compL put mt me (wipeE env own) (xs.drop i) = .ok rest ∧ ys ++ rest = r)
        ⟨N1, H1, [], [], r, Gr.refl g1.nh, hD, rfl, .nil, Nat.zero_le _, by rw [List.drop_zero]; exact hc, rfl⟩ ?_ ?_ ?_
      · rintro i H' hi ⟨N', Hn, acc, ys, rest, g2, hn, rfl, _⟩
        exact hG _ fun a o q => by
          have := g2.nh a o (g2.nn a o q)
          rw [upd_ne (ne_of_none this hn)]
          exact this
      · rintro i x Hi Hx hi ⟨N', Hn, acc, ys, rest, g2, hn, rfl, hacc, hlen, hrest, hr⟩ y
        -- the turn's item
        have sb : Sub N1 (upd Hn D (.lst acc)) := fun a o q => by
          have := g2.nh a o (g2.nn a o q)
          rw [upd_ne (ne_of_none this hn)]
          exact this
        have sb' : Sub N' (upd Hn D (.lst acc)) := fun a o q => by
          have := g2.nh a o q
          rw [upd_ne (ne_of_none this hn)]
          exact this
        obtain ⟨Nx, xv, gx, hxi, rx⟩ := hY i _ x Hx hi sb y
        rw [List.drop_eq_getElem_cons hi] at hrest
        have hxe : xs[i] = xv := by rw [List.getElem?_eq_getElem hi] at hxi; exact Option.some.inj hxi
        rw [hxe] at hrest
        obtain ⟨e1, b, hput, hb, hways⟩ := compL_cons hrest
        -- the frozen part at this turn: both what the turns before and what the item made
        let Nu : Hp := fun a => if Nx a = none then N' a else Nx a
        have u1 : Sub Nx Nu := fun a o q => by show (if Nx a = none then N' a else Nx a) = some o; rw [if_neg (by rw [q]; simp)]; exact q
        have u2 : Sub Nu Hx := fun a o q => by
          have q' : (if Nx a = none then N' a else Nx a) = some o := q
          by_cases hz : Nx a = none
          · rw [if_pos hz] at q'; exact gx.hh a o (sb' a o q')
          · rw [if_neg hz] at q'; exact gx.nh a o q'
        have u3 : Sub N' Nu := fun a o q => by
          show (if Nx a = none then N' a else Nx a) = some o
          by_cases hz : Nx a = none
          · rw [if_pos hz]; exact q
          · rw [if_neg hz]
            cases hq : Nx a with
            | none => exact absurd hq hz
            | some o' =>
              have h1 := gx.nh a o' hq
              have h2 := gx.hh a o (sb' a o q)
              rw [h1] at h2
              exact h2
        have u4 : ∀ a, Nu a ≠ none → N' a ≠ none ∨ Hn a = none := fun a q => by
          have q' : (if Nx a = none then N' a else Nx a) ≠ none := q
          by_cases hz : Nx a = none
          · rw [if_pos hz] at q'; exact .inl q'
          · rcases gx.nw a hz with h1 | h1
            · cases hq : N1 a with
              | none => exact absurd hq h1
              | some o => exact .inl (by rw [g2.nn a o hq]; simp)
            · right
              cases hq : Hn a with
              | none => rfl
              | some o =>
                have hne : a ≠ D := ne_of_none hq hn
                rw [upd_ne hne, hq] at h1
                cases h1
        have rxu : RV K Nu x xv := rx.mono u1
        refine hp Nu Hx (L2.wipe σ own) (wipeE env own) x xv e1 u2 rxu hput _ fun l hl he1 => ?_
        refine ⟨by rw [wipe_sets (fun t ht => hsub _ (hl t ht).1), wipe_wipe fun v hv => hv], ?_⟩
        have s2 : SV K Nu (setsS (L2.wipe σ own) l) e1 := by
          rw [he1]
          exact ((s1.mono (fun a o q => u3 a o (g2.nn a o q))).wipe own).sets fun t ht => (hl t ht).2
        -- the heap with D's list hidden again
        have hDx : Hx D = some (.lst acc) := gx.hh D _ upd_same
        refine ht Nu Hx _ e1 u2 s2 _ ?_
        rw [hb]
        intro N3 H3 g3
        have hD3 : H3 D = some (.lst acc) := g3.hh D _ hDx
        -- from a state behind: take D out of the frozen part and out of the heap
        have back : ∀ {N4 H4 : Hp}, Gr Nu Hx N4 H4 → ∃ H5, Gr N1 H1 N4 H5 ∧ H5 D = none ∧ Sub N' N4 ∧ ∀ o, upd H5 D o = upd H4 D o := fun {N4 H4} g4 => by
          have n4 : N4 D = none := by
            cases hq : N4 D with
            | none => rfl
            | some o =>
              rcases g4.nw D (by rw [hq]; simp) with h1 | h1
              · rcases u4 D h1 with h2 | h2
                · cases hq2 : N' D with
                  | none => exact absurd hq2 h2
                  | some o2 => have := g2.nh D o2 hq2; rw [hn] at this; cases this
                · -- Nu D known, yet Hn D = none: D is the list itself
                  cases hq2 : Nu D with
                  | none => exact absurd hq2 h1
                  | some o2 =>
                    exfalso
                    have q' : (if Nx D = none then N' D else Nx D) = some o2 := hq2
                    by_cases hz : Nx D = none
                    · rw [if_pos hz] at q'
                      have := g2.nh D o2 q'
                      rw [hn] at this
                      cases this
                    · rcases gx.nw D hz with h3 | h3
                      · cases hq3 : N1 D with
                        | none => exact absurd hq3 h3
                        | some o3 => have := g1.nh D o3 hq3; rw [hD] at this; cases this
                      · rw [upd_same] at h3; cases h3
              · rw [hDx] at h1; cases h1
          refine ⟨fun a => if a = D then none else H4 a, ⟨fun a o q => ?_, fun a o q => g4.nn a o (u3 a o (g2.nn a o q)), fun a o q => ?_, fun a q => ?_⟩, if_pos rfl, fun a o q => g4.nn a o (u3 a o q), fun o => ?_⟩
          · have hne : a ≠ D := ne_of_none q hD
            show (if a = D then none else H4 a) = some o
            rw [if_neg hne]
            refine g4.hh a o (gx.hh a o ?_)
            rw [upd_ne hne]
            exact g2.hh a o q
          · show (if a = D then none else H4 a) = some o
            rw [if_neg (fun z => by rw [z, n4] at q; cases q)]
            exact g4.nh a o q
          · rcases g4.nw a q with h1 | h1
            · rcases u4 a h1 with h2 | h2
              · exact g2.nw a h2
              · exact .inr (g2.hh.free h2)
            · right
              cases hq : H1 a with
              | none => rfl
              | some o =>
                have h2 := g2.hh a o hq
                have hne : a ≠ D := ne_of_none h2 hn
                have := gx.hh a o (by rw [upd_ne hne]; exact h2)
                rw [h1] at this
                cases this
          · funext a
            unfold upd
            by_cases ha : a = D
            · rw [if_pos ha, if_pos ha]
            · rw [if_neg ha, if_neg ha]
              show (if a = D then none else H4 a) = H4 a
              rw [if_neg ha]
        rcases hways with ⟨rfl, yv, r', hel, hr', hrr⟩ | ⟨rfl, hr'⟩
        · show te _ H3 _
          refine he N3 H3 _ e1 g3.nh (s2.mono g3.nn) _ ?_
          rw [hel]
          intro N4 H4 g4 v rv
          have g34 := g3.trans g4
          refine ⟨acc, g4.hh D _ hD3, Nat.lt_of_lt_of_le (Nat.lt_of_le_of_lt hlen hi) (Nat.le_trans hsz (by rw [line_eq]; exact Nat.le_refl _)), ?_⟩
          obtain ⟨H5, g5, h5, sub5, hu⟩ := back g34
          refine ⟨N4, H5, acc ++ [v], ys ++ [yv], r', g5, h5, (hu _).symm, (hacc.mono sub5).append (.cons rv .nil), by simp only [List.length_append, List.length_singleton]; omega, hr', by rw [← hr, hrr, List.append_assoc]; rfl⟩
        · show ∃ N' Hn acc ys rest, _
          obtain ⟨H5, g5, h5, sub5, hu⟩ := back g3
          refine ⟨N3, H5, acc, ys, rest, g5, h5, ?_, hacc.mono sub5, by omega, hr', hr⟩
          rw [hu]
          funext a
          unfold upd
          by_cases ha : a = D
          · rw [if_pos ha, ha]; exact hD3
          · rw [if_neg ha]
      · rintro H' ⟨N', Hn, acc, ys, rest, g2, hn, rfl, hacc, hlen, hrest, hr⟩
        rw [List.drop_length] at hrest
        cases hrest
        rw [List.append_nil] at hr
        subst hr
        exact fin N' Hn g2 D acc hn hacc
  · exact h1.elim
theorem ef_comp {wi : TI} {it : EI} {g : TG} {put : Put} {is own : List Nat} {tt : TT} {te : TE} {mt : EB} {me : EX} (hi : EvI K C wi it) (hp : EvP K g put is) (hsub : ∀ i ∈ is, i ∈ own)
    (ht : EvB K (C0 C) tt mt) (he : EvE K (C0 C) te me) : EvF K C (tLc wi g tt te own) (eComp it own put mt me) := fun N H σ env e s Q h => ef_comp_at (fun R => hi N H σ env e s R) hp hsub ht he e s Q h
end
end Vm

/-! The value machine over HandS: built-in functions, defs. -/
namespace Vm
open PySem L2 PyProof.Rows
theorem vals3 {x y z : V} {us : List Value} (r : Vals [x, y, z] us) : ∃ u w' v', us = [u, w', v'] ∧ RelV x u ∧ RelV y w' ∧ RelV z v' := by
  cases r with
  | cons r1 r2 =>
    obtain ⟨u, w', e, h1, h2⟩ := vals2 r2
    subst e
    exact ⟨_, _, _, rfl, r1, h1, h2⟩
theorem call_max3 {X : Cx} (hc : X.calm = true) : CallR X (.builtin "max") (fun xs H Q => ∃ i j k, xs = [.int i, .int j, .int k] ∧ Q (.int (if k > (if j > i then j else i) then k else (if j > i then j else i))) H) := by
  intro pins s σ H xs us Q I r h
  obtain ⟨i, j, k, rfl, q⟩ := h
  obtain ⟨u, w', v', rfl, ⟨t, rfl⟩, ⟨t', rfl⟩, ⟨t2, rfl⟩⟩ := vals3 r
  refine max_three_ints (I.ok.hd hc) fun h' tk hk => ⟨.int (if k > (if j > i then j else i) then k else (if j > i then j else i)), H, I.kept hk, ?_, q⟩
  by_cases h1 : j > i
  · rw [if_pos h1, if_pos h1]
    by_cases h2 : k > j
    · rw [if_pos h2, if_pos h2]; exact ⟨_, rfl⟩
    · rw [if_neg h2, if_neg h2]; exact ⟨_, rfl⟩
  · rw [if_neg h1, if_neg h1]
    by_cases h2 : k > i
    · rw [if_pos h2, if_pos h2]; exact ⟨_, rfl⟩
    · rw [if_neg h2, if_neg h2]; exact ⟨_, rfl⟩
section
variable {K : PySem.W.Frag}
theorem vals1r {N : Hp} {vs : List V} {x : Val} (r : RVs K N vs [x]) : ∃ v, vs = [v] ∧ RV K N v x := by
  cases r with
  | cons h t => cases t; exact ⟨_, rfl, h⟩
theorem vals2r {N : Hp} {vs : List V} {x y : Val} (r : RVs K N vs [x, y]) : ∃ v w, vs = [v, w] ∧ RV K N v x ∧ RV K N w y := by
  cases r with
  | cons h t => obtain ⟨w, rfl, h2⟩ := vals1r t; exact ⟨_, _, rfl, h, h2⟩
theorem vals3r {N : Hp} {vs : List V} {x y z : Val} (r : RVs K N vs [x, y, z]) : ∃ v w u, vs = [v, w, u] ∧ RV K N v x ∧ RV K N w y ∧ RV K N u z := by
  cases r with
  | cons h t => obtain ⟨w, u, rfl, h2, h3⟩ := vals2r t; exact ⟨_, _, _, rfl, h, h2, h3⟩

def rLenC (K : PySem.W.Frag) : List V → Hp → VK → Prop := fun xs H Q => (∃ p ys, xs = [.ref p] ∧ (SqL K H p ys ∨ SqT K H p ys) ∧ Q (.int ys.length) H) ∨ ∃ z, xs = [.str z] ∧ z.length ≤ sizeLine ∧ Q (.int z.length) H
theorem call_lenC {X : Cx} : CallR X (.builtin "len") (rLenC X.K) := CallR.or call_len_seq call_len_str
theorem ca_len : CaS K (rLenC K) vLen := by
  intro N H e vs xs rs Q ⟨z, hz, k⟩
  unfold vLen at hz
  split at hz
  · obtain ⟨v, rfl, rv⟩ := vals1r rs
    cases hz
    cases rv with
    | lst h r => exact .inl ⟨_, _, rfl, .inl (sq_mono e h), k N H (Gr.refl e) _ (by rw [r.length]; exact .int _)⟩
  · obtain ⟨v, rfl, rv⟩ := vals1r rs
    cases hz
    cases rv with
    | tup h r => exact .inl ⟨_, _, rfl, .inr (st_mono e h), k N H (Gr.refl e) _ (by rw [r.length]; exact .int _)⟩
  · obtain ⟨v, rfl, rv⟩ := vals1r rs
    obtain ⟨h1, rfl⟩ := ite_ok hz
    cases rv
    exact .inr ⟨_, rfl, len_line h1, k N H (Gr.refl e) _ (.int _)⟩
  · cases hz
theorem nx_len (xs : List Val) : NX (vLen xs) := by
  unfold vLen
  split <;> first | exact nx_ok | exact nx_ite nx_ok nx_bad | exact nx_bad
theorem opt_ok {α : Type} {β : Type} {o : Option α} {f : α → Res β} {z : β} (h : (Res.ofOpt o).bind f = .ok z) : ∃ a, o = some a ∧ f a = .ok z := by
  cases o with
  | none => cases h
  | some a => exact ⟨a, rfl, h⟩
theorem digit_text {z : Str} {n : Int} (h : digitOf z = some n) : PySem.intText? z = some n ∧ z.length ≤ 640 := by
  obtain ⟨⟨l⟩⟩ := z
  unfold digitOf at h
  match l, h with
  | [c], h =>
    have h : (if 48 ≤ c ∧ c ≤ 57 then some ((c : Int) - 48) else none) = some n := h
    split at h
    · rename_i hc
      cases h
      refine ⟨?_, by show 1 ≤ 640; omega⟩
      have : c = 48 ∨ c = 49 ∨ c = 50 ∨ c = 51 ∨ c = 52 ∨ c = 53 ∨ c = 54 ∨ c = 55 ∨ c = 56 ∨ c = 57 := by omega
      rcases this with rfl | rfl | rfl | rfl | rfl | rfl | rfl | rfl | rfl | rfl <;> decide +kernel
    · cases h
  | [], h => cases h
  | _ :: _ :: _, h => cases h
def rIntC : List V → Hp → VK → Prop := fun xs H Q => ((∃ i, xs = [.int i] ∧ Q (.int i) H) ∨ ∃ k, xs = [.bl k] ∧ Q (.int (if k then 1 else 0)) H) ∨ ∃ a n, xs = [.str a] ∧ PySem.intText? a = some n ∧ a.length ≤ 640 ∧ Q (.int n) H
theorem call_intC {X : Cx} : CallR X (.type "int") rIntC := CallR.or call_int1 call_int_str
theorem ca_int : CaS K rIntC vInt := by
  intro N H e vs xs rs Q ⟨z, hz, k⟩
  unfold vInt at hz
  split at hz
  · obtain ⟨v, rfl, rv⟩ := vals1r rs
    obtain ⟨n, hn, hz⟩ := opt_ok hz
    cases hz
    cases rv
    obtain ⟨h1, h2⟩ := digit_text hn
    exact .inr ⟨_, _, rfl, h1, h2, k N H (Gr.refl e) _ (.int _)⟩
  · obtain ⟨v, rfl, rv⟩ := vals1r rs
    cases hz
    cases rv
    exact .inl (.inl ⟨_, rfl, k N H (Gr.refl e) _ (.int _)⟩)
  · obtain ⟨v, rfl, rv⟩ := vals1r rs
    cases hz
    cases rv
    exact .inl (.inr ⟨_, rfl, k N H (Gr.refl e) _ (.int _)⟩)
  · cases hz
theorem nx_int (xs : List Val) : NX (vInt xs) := by unfold vInt; split <;> first | exact nx_ok | exact nx_bad | exact nx_bind nx_ofOpt (fun _ => nx_ok)
theorem ca_sum : CaS K (rSum K) vSum := by
  intro N H e vs xs rs Q ⟨z, hz, k⟩
  unfold vSum at hz
  split at hz
  · obtain ⟨v, rfl, rv⟩ := vals1r rs
    obtain ⟨ns, h1, h2⟩ := opt_ok hz
    have h3 := intsOf_eq h1
    subst h3
    cases h2
    cases rv with
    | lst h r =>
      have h4 := r.ofInts
      subst h4
      exact ⟨_, ns, rfl, sq_mono e h, k N H (Gr.refl e) _ (.int _)⟩
  · cases hz
theorem nx_sum (xs : List Val) : NX (vSum xs) := by unfold vSum; split <;> first | exact nx_bind nx_ofOpt (fun _ => nx_ok) | exact nx_bad
theorem maxL_spec : ∀ (ns : List Int) (m : Int), (maxL m ns = m ∨ maxL m ns ∈ ns) ∧ m ≤ maxL m ns ∧ ∀ y ∈ ns, y ≤ maxL m ns
  | [], m => ⟨.inl rfl, Int.le_refl _, fun y h => by cases h⟩
  | x :: ns, m => by
    obtain ⟨h1, h2, h3⟩ := maxL_spec ns (if x > m then x else m)
    show (maxL (if x > m then x else m) ns = m ∨ maxL (if x > m then x else m) ns ∈ x :: ns) ∧ m ≤ maxL (if x > m then x else m) ns ∧ ∀ y ∈ x :: ns, y ≤ maxL (if x > m then x else m) ns
    by_cases hx : x > m
    · rw [if_pos hx] at h1 h2 h3 ⊢
      refine ⟨.inr ?_, by omega, fun y hy => ?_⟩
      · rcases h1 with h | h
        · rw [h]; exact List.mem_cons_self
        · exact List.mem_cons_of_mem _ h
      · rcases List.mem_cons.mp hy with rfl | hy
        · exact h2
        · exact h3 y hy
    · rw [if_neg hx] at h1 h2 h3 ⊢
      refine ⟨?_, h2, fun y hy => ?_⟩
      · rcases h1 with h | h
        · exact .inl h
        · exact .inr (List.mem_cons_of_mem _ h)
      · rcases List.mem_cons.mp hy with rfl | hy
        · omega
        · exact h3 y hy
theorem minL_spec : ∀ (ns : List Int) (m : Int), (minL m ns = m ∨ minL m ns ∈ ns) ∧ minL m ns ≤ m ∧ ∀ y ∈ ns, minL m ns ≤ y
  | [], m => ⟨.inl rfl, Int.le_refl _, fun y h => by cases h⟩
  | x :: ns, m => by
    obtain ⟨h1, h2, h3⟩ := minL_spec ns (if x < m then x else m)
    show (minL (if x < m then x else m) ns = m ∨ minL (if x < m then x else m) ns ∈ x :: ns) ∧ minL (if x < m then x else m) ns ≤ m ∧ ∀ y ∈ x :: ns, minL (if x < m then x else m) ns ≤ y
    by_cases hx : x < m
    · rw [if_pos hx] at h1 h2 h3 ⊢
      refine ⟨.inr ?_, by omega, fun y hy => ?_⟩
      · rcases h1 with h | h
        · rw [h]; exact List.mem_cons_self
        · exact List.mem_cons_of_mem _ h
      · rcases List.mem_cons.mp hy with rfl | hy
        · exact h2
        · exact h3 y hy
    · rw [if_neg hx] at h1 h2 h3 ⊢
      refine ⟨?_, h2, fun y hy => ?_⟩
      · rcases h1 with h | h
        · exact .inl h
        · exact .inr (List.mem_cons_of_mem _ h)
      · rcases List.mem_cons.mp hy with rfl | hy
        · omega
        · exact h3 y hy
theorem maxL_uniq {n m : Int} {ns : List Int} (h1 : m ∈ n :: ns) (h2 : ∀ y, y ∈ n :: ns → y ≤ m) : m = maxL n ns := by
  obtain ⟨a, b, c⟩ := maxL_spec ns n
  have h3 : maxL n ns ≤ m := by
    rcases a with a | a
    · rw [a]; exact h2 n List.mem_cons_self
    · exact h2 _ (List.mem_cons_of_mem _ a)
  have h4 : m ≤ maxL n ns := by
    rcases List.mem_cons.mp h1 with rfl | h
    · exact b
    · exact c m h
  omega
theorem minL_uniq {n m : Int} {ns : List Int} (h1 : m ∈ n :: ns) (h2 : ∀ y, y ∈ n :: ns → m ≤ y) : m = minL n ns := by
  obtain ⟨a, b, c⟩ := minL_spec ns n
  have h3 : m ≤ minL n ns := by
    rcases a with a | a
    · rw [a]; exact h2 n List.mem_cons_self
    · exact h2 _ (List.mem_cons_of_mem _ a)
  have h4 : minL n ns ≤ m := by
    rcases List.mem_cons.mp h1 with rfl | h
    · exact b
    · exact c m h
  omega
def rMaxC (K : PySem.W.Frag) : List V → Hp → VK → Prop := fun xs H Q => (∃ i j, xs = [.int i, .int j] ∧ Q (.int (if j > i then j else i)) H) ∨ (∃ i j k, xs = [.int i, .int j, .int k] ∧ Q (.int (if k > (if j > i then j else i) then k else (if j > i then j else i))) H) ∨ rMax K xs H Q
theorem call_maxC {X : Cx} (hc : X.calm = true) : CallR X (.builtin "max") (rMaxC X.K) := CallR.or (call_max2 hc) (CallR.or (call_max3 hc) (cr_max hc))
def rMinC (K : PySem.W.Frag) : List V → Hp → VK → Prop := fun xs H Q => (∃ i j, xs = [.int i, .int j] ∧ Q (.int (if j < i then j else i)) H) ∨ rMin K xs H Q
theorem call_minC {X : Cx} (hc : X.calm = true) : CallR X (.builtin "min") (rMinC X.K) := CallR.or (call_min2 hc) (cr_min hc)
theorem ca_max : CaS K (rMaxC K) vMax := by
  intro N H e vs xs rs Q ⟨z, hz, k⟩
  unfold vMax at hz
  split at hz
  · obtain ⟨v, w, rfl, r1, r2⟩ := vals2r rs
    cases hz
    cases r1
    cases r2
    exact .inl ⟨_, _, rfl, k N H (Gr.refl e) _ (.int _)⟩
  · obtain ⟨v, w, u, rfl, r1, r2, r3⟩ := vals3r rs
    cases hz
    cases r1
    cases r2
    cases r3
    exact .inr (.inl ⟨_, _, _, rfl, k N H (Gr.refl e) _ (.int _)⟩)
  · obtain ⟨v, rfl, rv⟩ := vals1r rs
    obtain ⟨ns, h1, h2⟩ := opt_ok hz
    have h3 := intsOf_eq h1
    subst h3
    split at h2
    · cases h2
    · rename_i n ns
      cases h2
      cases rv with
      | lst h r =>
        have h4 := r.ofInts
        subst h4
        exact .inr (.inr ⟨_, n :: ns, rfl, sq_mono e h, Nat.succ_pos _, fun m hm hb => k N H (Gr.refl e) _ (by rw [maxL_uniq hm hb]; exact .int _)⟩)
  · cases hz
theorem ca_min : CaS K (rMinC K) vMin := by
  intro N H e vs xs rs Q ⟨z, hz, k⟩
  unfold vMin at hz
  split at hz
  · obtain ⟨v, w, rfl, r1, r2⟩ := vals2r rs
    cases hz
    cases r1
    cases r2
    exact .inl ⟨_, _, rfl, k N H (Gr.refl e) _ (.int _)⟩
  · obtain ⟨v, rfl, rv⟩ := vals1r rs
    obtain ⟨ns, h1, h2⟩ := opt_ok hz
    have h3 := intsOf_eq h1
    subst h3
    split at h2
    · cases h2
    · rename_i n ns
      cases h2
      cases rv with
      | lst h r =>
        have h4 := r.ofInts
        subst h4
        exact .inr ⟨_, n :: ns, rfl, sq_mono e h, Nat.succ_pos _, fun m hm hb => k N H (Gr.refl e) _ (by rw [minL_uniq hm hb]; exact .int _)⟩
  · cases hz
theorem nx_max (xs : List Val) : NX (vMax xs) := by
  unfold vMax
  split
  · exact nx_ok
  · exact nx_ok
  · exact nx_bind nx_ofOpt fun ns => by split <;> first | exact nx_bad | exact nx_ok
  · exact nx_bad
theorem nx_min (xs : List Val) : NX (vMin xs) := by
  unfold vMin
  split
  · exact nx_ok
  · exact nx_bind nx_ofOpt fun ns => by split <;> first | exact nx_bad | exact nx_ok
  · exact nx_bad
theorem ca_any : CaS K (rAny K) vAny := by
  intro N H e vs xs rs Q ⟨z, hz, k⟩
  unfold vAny at hz
  split at hz
  · obtain ⟨v, rfl, rv⟩ := vals1r rs
    obtain ⟨ns, h1, h2⟩ := opt_ok hz
    have h3 := blsOf_eq h1
    subst h3
    cases h2
    cases rv with
    | lst h r =>
      have h4 := r.ofBls
      subst h4
      exact ⟨_, ns, rfl, sq_mono e h, k N H (Gr.refl e) _ (.bl _)⟩
  · cases hz
theorem ca_all : CaS K (rAll K) vAll := by
  intro N H e vs xs rs Q ⟨z, hz, k⟩
  unfold vAll at hz
  split at hz
  · obtain ⟨v, rfl, rv⟩ := vals1r rs
    obtain ⟨ns, h1, h2⟩ := opt_ok hz
    have h3 := blsOf_eq h1
    subst h3
    cases h2
    cases rv with
    | lst h r =>
      have h4 := r.ofBls
      subst h4
      exact ⟨_, ns, rfl, sq_mono e h, k N H (Gr.refl e) _ (.bl _)⟩
  · cases hz
theorem nx_any (xs : List Val) : NX (vAny xs) := by unfold vAny; split <;> first | exact nx_bind nx_ofOpt (fun _ => nx_ok) | exact nx_bad
theorem nx_all (xs : List Val) : NX (vAll xs) := by unfold vAll; split <;> first | exact nx_bind nx_ofOpt (fun _ => nx_ok) | exact nx_bad
def rListC (K : PySem.W.Frag) : List V → Hp → VK → Prop := fun xs H Q => ∃ p ys, xs = [.ref p] ∧ (SqL K H p ys ∨ SqT K H p ys) ∧ ∀ l, H l = none → Q (.ref l) (upd H l (.lst ys))
def rTupC (K : PySem.W.Frag) : List V → Hp → VK → Prop := fun xs H Q => ∃ p ys, xs = [.ref p] ∧ ((SqL K H p ys ∧ ∀ l, H l = none → Q (.ref l) (upd H l (.tup ys))) ∨ (SqT K H p ys ∧ Q (.ref p) H))
theorem ca_tupOf : CaS K (rTupC K) vTupOf := by
  intro N H e vs xs rs Q ⟨z, hz, k⟩
  unfold vTupOf at hz
  split at hz
  · obtain ⟨v, rfl, rv⟩ := vals1r rs
    cases hz
    cases rv with
    | lst h r => exact ⟨_, _, rfl, .inl ⟨sq_mono e h, fun l hl => k _ _ (Gr.new e hl) _ (.tup (SqT.of upd_same) (r.mono (Gr.new e hl).nn))⟩⟩
  · obtain ⟨v, rfl, rv⟩ := vals1r rs
    cases hz
    cases rv with
    | tup h r => exact ⟨_, _, rfl, .inr ⟨st_mono e h, k N H (Gr.refl e) _ (.tup h r)⟩⟩
  · cases hz
theorem nx_tupOf (xs : List Val) : NX (vTupOf xs) := by unfold vTupOf; split <;> first | exact nx_ok | exact nx_bad
theorem nx_listOf (xs : List Val) : NX (vListOf xs) := by unfold vListOf; split <;> first | exact nx_ok | exact nx_bad
theorem ef_listOf {C : Cn} {t : TA} {m : EL} (ha : EvA K C t m) : EvF K C (tCB (rListC K) t) (eArgs vListOf m) := fun N H σ env e s Q h => by
  refine ha N H σ env e s _ (PostR.imp (PostR.bind h) fun xs N1 H1 g1 h1 vs rs => ?_)
  unfold vListOf at h1
  split at h1
  · obtain ⟨v, rfl, rv⟩ := vals1r rs
    cases rv with
    | lst hs r =>
      obtain ⟨ys, e1, h2⟩ := h1 N1 H1 (Gr.refl g1.nh)
      cases e1
      exact ⟨_, _, rfl, .inl (sq_mono g1.nh hs), fun l hl => h2 l _ hl r⟩
  · obtain ⟨v, rfl, rv⟩ := vals1r rs
    cases rv with
    | tup hs r =>
      obtain ⟨ys, e1, h2⟩ := h1 N1 H1 (Gr.refl g1.nh)
      cases e1
      exact ⟨_, _, rfl, .inr (st_mono g1.nh hs), fun l hl => h2 l _ hl r⟩
  · exact h1.elim
/-- the list made by +, by a slice -/
theorem ef_cut {C : Cn} {ta : TE} {ma : EX} {tl th : TO} {lo hi : Option EX} (ha : EvE K C ta ma) (hl : EvO K C tl lo) (hh : EvO K C th hi) : EvF K C (tSl (rSlV K) ta tl th) (eCut ma lo hi) := fun N H σ env e s Q h => by
  refine ha N H σ env e s _ (PostR.imp (PostR.bind h) fun x N1 H1 g1 h1 v rv => ?_)
  have s1 := s.mono g1.nn
  refine hl N1 H1 σ env g1.nh s1 _ (PostR.imp (PostR.bind h1) fun l N2 H2 g2 h2 => ?_)
  refine hh N2 H2 σ env g2.nh (s1.mono g2.nn) _ (PostR.imp (PostR.bind h2) fun u N3 H3 g3 h3 => ?_)
  obtain ⟨z, hz, k⟩ := h3.val (nx_cut x l u)
  have rv3 := (rv.mono g2.nn).mono g3.nn
  obtain ⟨ys, rfl, k3⟩ := k N3 H3 (Gr.refl g3.nh)
  cases rv3 with
  | lst hs r =>
    cases hz
    exact .inl ⟨_, _, rfl, sq_mono g3.nh hs, fun p hp => k3 p _ hp (r.cut l u)⟩
  | tup hs r =>
    simp only [vCut] at hz
    split at hz <;> cases hz
  | str z =>
    simp only [vCut] at hz
    split at hz <;> cases hz
  | _ => cases hz
theorem ef_add {C : Cn} {ta tb : TE} {ma mb : EX} (ha : EvE K C ta ma) (hb : EvE K C tb mb) : EvF K C (tOp (rAddV K) ta tb) (e2 vAdd ma mb) := fun N H σ env e s Q h => by
  refine ha N H σ env e s _ (PostR.imp (PostR.bind h) fun x N1 H1 g1 h1 v rv => ?_)
  refine hb N1 H1 σ env g1.nh (s.mono g1.nn) _ (PostR.imp (PostR.bind h1) fun y N2 H2 g2 h2 w rw' => ?_)
  obtain ⟨z, hz, k⟩ := h2.val (nx_add x y)
  obtain ⟨ys, rfl, k3⟩ := k N2 H2 (Gr.refl g2.nh)
  have rv2 := rv.mono g2.nn
  unfold vAdd at hz
  split at hz
  · cases hz
  · split at hz <;> cases hz
  · obtain ⟨hl, e1⟩ := ite_ok hz
    cases e1
    cases rv2 with
    | lst h r =>
      cases rw' with
      | lst h2 r2 => exact .inr (.inr (.inl ⟨_, _, _, _, rfl, rfl, sq_mono g2.nh h, sq_mono g2.nh h2, by rw [line_eq, r.length, r2.length]; exact hl, fun p hp => k3 p _ hp (r.append r2)⟩))
  · split at hz <;> cases hz
  · cases hz
theorem nx_rep (x y : Val) : NX (vRep x y) := by unfold vRep; split <;> first | exact nx_ite nx_ok nx_bad | exact nx_bad
theorem nx_and1 (x y : Val) : NX (vAnd1 x y) := by unfold vAnd1; split <;> first | exact nx_ok | exact nx_bad
def rAnd1 : R2 := fun x y H Q => ∃ i : Int, x = .int i ∧ y = .int 1 ∧ Q (.int (i % 2)) H
theorem op_and1 {X : Cx} : OpR X (binaryOp .BitAnd) rAnd1 := by
  intro pins s σ H x y v u Q I rx ry h
  obtain ⟨i, rfl, rfl, q⟩ := h
  exact op_andM pins s σ H _ _ v u Q I rx ry ⟨i, 1, rfl, rfl, q⟩
theorem ops_and1 : OpS K rAnd1 vAnd1 := by
  intro N H e v w x y rx ry Q ⟨z, hz, k⟩
  unfold vAnd1 at hz
  split at hz
  · cases hz; cases rx; cases ry
    exact ⟨_, rfl, rfl, k N H (Gr.refl e) _ (.int _)⟩
  · cases hz
theorem RVs.rep {N : Hp} {vs : List V} {xs : List Val} (r : RVs K N vs xs) : ∀ n : Nat, RVs K N (List.replicate n vs).flatten (List.replicate n xs).flatten
  | 0 => .nil
  | n + 1 => by
    rw [List.replicate_succ, List.replicate_succ, List.flatten_cons, List.flatten_cons]
    exact r.append (RVs.rep r n)
theorem ef_rep {C : Cn} {ta tb : TE} {ma mb : EX} (hlst : ∀ env x, ma env = .ok x → ∃ xs, x = .lst xs) (ha : EvF K C ta ma) (hb : EvE K C tb mb) : EvF K C (tOp rRep ta tb) (e2 vRep ma mb) := fun N H σ env e s Q h => by
  refine ha N H σ env e s _ ?_
  have hq := PostR.bind (show PostR C σ N H ((ma env).bind fun x => (mb env).bind fun y => vRep x y) _ from h)
  cases hm : ma env with
  | bad => rw [hm] at hq; exact hq
  | exc q => rw [hm] at hq; exact hq
  | ok x =>
    rw [hm] at hq
    obtain ⟨xs, rfl⟩ := hlst env x hm
    intro N1 H1 g1
    have h1 := hq N1 H1 g1
    refine ⟨xs, rfl, fun p vs hp rvs => ?_⟩
    have hNp : N1 p = none := by
      cases hq : N1 p with
      | none => rfl
      | some o => have := g1.nh p o hq; rw [hp] at this; cases this
    have e1 : Sub N1 (upd H1 p (.lst vs)) := fun a o q => by rw [upd_ne (ne_of_none q hNp)]; exact g1.nh a o q
    have g0 : Gr N1 H1 N1 (upd H1 p (.lst vs)) := ⟨fun a o q => by rw [upd_ne (ne_of_none q hp)]; exact q, fun a o q => q, e1, fun a q => .inl q⟩
    refine hb N1 _ σ env e1 (s.mono g1.nn) _ (PostR.imp (PostR.bind (PostR.step g0 h1)) fun y N2 H2 g2 h2 w rw' => ?_)
    cases rw' with
    | int k =>
      obtain ⟨z, hz, kk⟩ := h2.val (nx_rep _ _)
      obtain ⟨⟨hs, hl⟩, rfl⟩ := ite_ok hz
      obtain ⟨s1, s2⟩ := smallI_ok hs
      refine ⟨p, k, vs, rfl, rfl, g2.hh p _ upd_same, by omega, by omega, by rw [line_eq, rvs.length]; exact hl, fun p2 hp2 => ?_⟩
      obtain ⟨ys, ey, k3⟩ := kk N2 H2 (Gr.refl g2.nh)
      cases ey
      exact k3 p2 _ hp2 ((rvs.rep k.toNat).mono g2.nn)
    | _ =>
      obtain ⟨z, hz, kk⟩ := h2.val (nx_rep _ _)
      cases hz
end

/-! ### isinstance of built-in types -/
def Ty.nm : Ty → String
  | .int => "int"
  | .bool => "bool"
  | .str => "str"
  | .list => "list"
  | .tuple => "tuple"
  | .dict => "dict"
def tyNm (x : Val) : String := match x.ty with
  | none => "NoneType"
  | some t => t.nm
theorem kit_tab : ∀ (t : Option Ty) (u : Ty), kitB (match t with | none => "NoneType" | some t => t.nm) u.nm = some (Ty.sub t u) := by
  intro t u
  rcases t with _ | t
  · cases u <;> decide +kernel
  · cases t <;> cases u <;> decide +kernel
section
variable {K : PySem.W.Frag} {C : Cn}
theorem RV.tyx {N H : Hp} (e : Sub N H) {v : V} {x : Val} (r : RV K N v x) (no : x.isOb = false) : TyX K H v (.type (tyNm x)) := by
  cases r with
  | non => exact .base .non
  | bl b => exact .base (.bl b)
  | int i => exact .base (.int i)
  | str x => exact .base (.str x)
  | tup h _ =>
    rcases st_mono e h with (h | ⟨o, h⟩) | ⟨o, its, n, hk, hc, _⟩
    · exact .base (.tup h)
    · exact .fTuple h
    · exact .kTuple hk hc
  | lst h _ =>
    rcases sq_mono e h with (h | ⟨o, h⟩) | ⟨o, its, n, hk, hc, _⟩
    · exact .base (.lst h)
    · exact .base (.frz h)
    · exact .kList hk hc
  | dct h _ =>
    rcases h with h | ⟨o, h⟩
    · exact .base (.dK (e _ _ h))
    · exact .fDict (e _ _ h)
  | dcT h _ => exact .base (.dT (e _ _ h))
  | ob _ _ => cases no
theorem ev_isi {ta : TE} {ma : EX} {u : Ty} (ha : EvE K C ta ma) : EvE K C (tCB (rIsi K) (tCons ta (tCons (tC (.ty u.nm)) tNil))) (e1 (vIsi u) ma) := fun N H σ env e s Q h => by
  refine ha N H σ env e s _ (PostR.imp (PostR.bind h) fun x N1 H1 g1 h1 v rv => ?_)
  unfold vIsi at h1
  cases no : x.isOb with
  | true => rw [no, if_pos rfl] at h1; exact h1.elim
  | false =>
    rw [no, if_neg (by simp)] at h1
    exact ⟨v, .ty u.nm, .type (tyNm x), .type u.nm, Ty.sub x.ty u, rfl, .ty _, rv.tyx g1.nh no, kit_ty (by
      have := kit_tab x.ty u
      exact this), h1 N1 H1 (Gr.refl g1.nh) _ (.bl _)⟩
end

/-! ### defs -/
/-- what a def promises: its function on values -/
def spF (K : PySem.W.Frag) (XR : XRel) (k : Nat) (f : Fn) : Sp := fun vs H Q E => ∃ N xs, Sub N H ∧ RVs K N vs xs ∧ xs.length = k ∧ (match f xs with
  | .ret y => ∀ N' H', Gr N H N' H' → ∀ v, RV K N' v y → Q v H'
  | .exc q => ∀ cls d N' H', Gr N H N' H' → XR H' cls d q → E cls d H'
  | .bad => False)
/-- a def of the module -/
structure Cal (P : Program) (w : World) (K : PySem.W.Frag) (mg : Str → Option Value) (base : Heap) (XR : XRel) (x : Str) (j k : Nat) (f : Fn) : Prop where
  ex : ∃ a fd ps, FnOk P w K mg base (L2.CX P w) j a fd ps (spF K XR k f) ∧ mg x = some (.ref a) ∧ PySem.W.keepIn K (.ref a) = true ∧ Binds K fd ps []
  ln : ∀ xs, f xs ≠ .bad → xs.length = k
/-- what is wanted of an exception, at the slots -/
def CE (C : Cn) (σ : L2.St) : XK := fun cls d H => match C.W with
  | some w => w cls d σ H
  | none => False
def Lets (X : Cx) (C : Cn) : Prop := ∀ σ, PassesAt (L2.CX X.prog X.w) X σ (CE C σ)
theorem Lets.of {X : Cx} {XR : XRel} {W : WX} (tk : Takes X W) : Lets X ⟨XR, some W⟩ := fun σ => passAt tk σ
theorem Lets.no {X : Cx} {C : Cn} : Lets X (C0 C) := fun σ pins H s e s' I c => by
  obtain ⟨_, _, _, _, _, _, _, _, _, _, _, _, z⟩ := c
  exact z.elim
theorem ev_call {K : PySem.W.Frag} {C : Cn} {k : Nat} {f : Fn} {t : TA} {m : EL} (hk : ∀ xs, f xs ≠ .bad → xs.length = k) (ha : EvA K C t m) : EvE K C (tCallS (spF K C.XR k f) (CE C) t) (eCall f m) := fun N H σ env e s Q h => by
  have hb := PostR.bind (show PostR C σ N H ((m env).bind fun xs => (f xs).res) _ from h)
  cases hm : m env with
  | bad => rw [hm] at hb; exact hb.elim
  | exc q => exact ha N H σ env e s _ (by rw [hm] at hb ⊢; exact hb)
  | ok xs0 =>
    refine ha N H σ env e s _ ?_
    rw [hm] at hb ⊢
    intro N1 H1 g1 vs rvs
    have h1 : PostR C σ N1 H1 (f xs0).res fun x N' H' => ∀ (v : V), RV K N' v x → Q v H' := hb N1 H1 g1
    refine ⟨N1, xs0, g1.nh, rvs, hk xs0 fun z => (by rw [z] at h1; exact h1), ?_⟩
    cases hf : f xs0 with
    | bad => rw [hf] at h1; exact h1
    | ret y => rw [hf] at h1; exact h1
    | exc q =>
      rw [hf] at h1
      obtain ⟨w, hw, h2⟩ := (show ExcP C σ N1 H1 q from h1)
      intro cls d N' H' g' hx
      show CE C σ cls d H'
      unfold CE
      rw [hw]
      exact h2 cls d N' H' g' hx
section
variable {X : Cx} {C : Cn}
theorem se_call {x : Str} {j k : Nat} {f : Fn} {p pos : Pos} {e : Expr} {es : List Expr} {t : TA} {m : EL} (c : Cal X.prog X.w X.K X.mg X.base C.XR x j k f) (hr : Room j X.A) (hl : Lets X C) (ha : SA X C (e :: es) t m)
    (hg : Gl X x := by rfl) (hdb : (x == ("__debug__" : Str)) = false := by decide) (he : starEach (e :: es) X.env = (false, eval e X.env) :: starEach es X.env := by rfl) (hpl : (backTo pos (starEach es X.env)).any (·.1) = false := by rfl) :
    SE X C (.Call (.Name x p) (e :: es) [] pos) (tCallS (spF X.K C.XR k f) (CE C) t) (eCall f m) := by
  obtain ⟨a, fd, ps, F, hm, hkp, hb⟩ := c.ex
  exact ⟨pe_callS F hr hg hm hkp hb hl ha.pe hdb he hpl, ev_call c.ln ha.ev⟩
end
end Vm

/-! The value machine over HandS: dicts by keys that are ints or texts. -/
namespace Vm
open PySem L2 PyProof.Rows
section
variable {K : PySem.W.Frag} {N : Hp}
theorem RKs.get {k : Key} : ∀ {vs : List (L2.Key × V)} {xs : List (Key × Val)}, RKs K N vs xs → match getV xs k with
    | some x => ∃ v, valV vs k = some v ∧ RV K N v x
    | none => valV vs k = none
  | _, _, .nil => rfl
  | _, _, .cons (k := k0) (v := v) (vs := vs) (x := x) (xs := xs) h r => by
    have ih := RKs.get (k := k) r
    by_cases e : k0 = k
    · have h1 : getV ((k0, x) :: xs) k = some x := by simp [getV, List.find?_cons, e]
      rw [h1]
      exact ⟨v, valV_pos e, h⟩
    · have h1 : getV ((k0, x) :: xs) k = getV xs k := by simp [getV, List.find?_cons, e]
      rw [h1, valV_neg e]
      exact ih
theorem RKs.some {k : Key} {vs : List (L2.Key × V)} {xs : List (Key × Val)} (r : RKs K N vs xs) : (valV vs k).isSome = (getV xs k).isSome := by
  have h := r.get (k := k)
  cases hg : getV xs k with
  | none => rw [hg] at h; simp only at h; rw [h]; rfl
  | some x => rw [hg] at h; obtain ⟨v, h1, _⟩ := h; rw [h1]; rfl
theorem RKs.length : ∀ {vs : List (L2.Key × V)} {xs : List (Key × Val)}, RKs K N vs xs → vs.length = xs.length
  | _, _, .nil => rfl
  | _, _, .cons _ r => congrArg (· + 1) r.length
theorem RKs.anyK {k : Key} : ∀ {vs : List (L2.Key × V)} {xs : List (Key × Val)}, RKs K N vs xs → (vs.any fun kv => decide (kv.1 = k)) = (xs.any fun kv => decide (kv.1 = k))
  | _, _, .nil => rfl
  | _, _, .cons _ r => by rw [List.any_cons, List.any_cons, RKs.anyK r]
theorem RKs.mapK {k : Key} {v : V} {x : Val} (h : RV K N v x) : ∀ {vs : List (L2.Key × V)} {xs : List (Key × Val)}, RKs K N vs xs → RKs K N (vs.map fun kv => if kv.1 = k then (kv.1, v) else kv) (xs.map fun kv => if kv.1 = k then (kv.1, x) else kv)
  | _, _, .nil => .nil
  | _, _, .cons (k := k0) h0 r => by
    rw [List.map_cons, List.map_cons]
    by_cases e : k0 = k
    · simp only [e, if_true]
      exact .cons h (RKs.mapK h r)
    · simp only [e, if_false]
      exact .cons h0 (RKs.mapK h r)
theorem RKs.snoc {k : Key} {v : V} {x : Val} (h : RV K N v x) : ∀ {vs : List (L2.Key × V)} {xs : List (Key × Val)}, RKs K N vs xs → RKs K N (vs ++ [(k, v)]) (xs ++ [(k, x)])
  | _, _, .nil => .cons h .nil
  | _, _, .cons h0 r => .cons h0 (RKs.snoc h r)
theorem RKs.put {k : Key} {v : V} {x : Val} {vs : List (L2.Key × V)} {xs : List (Key × Val)} (r : RKs K N vs xs) (h : RV K N v x) : RKs K N (putK vs k v) (putV xs k x) := by
  unfold putK putV
  rw [r.anyK]
  split
  · exact r.mapK h
  · exact r.snoc h
theorem RKs.merge : ∀ {ms : List (L2.Key × V)} {ys : List (Key × Val)} {vs : List (L2.Key × V)} {xs : List (Key × Val)}, RKs K N ms ys → RKs K N vs xs → RKs K N (mergeK vs ms) (mergeV xs ys)
  | [], _, _, _, .nil, r => r
  | _ :: ms, _, vs, xs, .cons (k := k) (v := v) (x := x) (xs := ys) h m, r => show RKs K N (mergeK (putK vs k v) ms) (mergeV (putV xs k x) ys) from RKs.merge m (r.put h)
theorem keyOf_rv {w : V} {y : Val} {k : Key} (r : RV K N w y) (h : keyOfV y = some k) : w = kV k := by
  cases r with
  | int i => cases h; rfl
  | str x => cases h; rfl
  | _ => cases h
end
/-! ### d[k], k in d -/
def rIxV (K : PySem.W.Frag) : R2 := fun x y H Q => rIx K x y H Q ∨ ∃ a v, x = .ref a ∧ DGet H a y (some v) ∧ Q v H
section
variable {X : Cx}
theorem ix_dK (hu : X.A.units + 1 < cLine) : IxR X (fun x y H Q => ∃ a v, x = .ref a ∧ DGet H a y (some v) ∧ Q v H) := by
  intro value slice pins s σ H x y v u Q I rx ry h hs
  obtain ⟨a, z, rfl, g, q⟩ := h
  obtain rfl : v = Value.ref a := rx
  exact tail_any (dict_typeIs I g) slot_dict_getitem.lookup (d_getItem hu I g ry fun w' s' I' rw' => ⟨z, H, I', rw', q⟩) hs
theorem ix_V (hu : X.A.units + 1 < cLine) : IxR X (rIxV X.K) := ix_seq.or (ix_dK hu)
def rInW (K : PySem.W.Frag) : R2 := fun x y H Q => rInV K x y H Q ∨ ∃ a o, y = .ref a ∧ DGet H a x o ∧ Q (.bl o.isSome) H
def rNotInW (K : PySem.W.Frag) : R2 := fun x y H Q => rNotInV K x y H Q ∨ ∃ a o, y = .ref a ∧ DGet H a x o ∧ Q (.bl (!o.isSome)) H
theorem op_inW (hu : X.A.units + 1 < cLine) : OpR X (compareOp .In) (rInW X.K) := OpR.or op_inV (by
  intro pins s σ H x y v u Q I rx ry h
  obtain ⟨a, o, rfl, g, q⟩ := h
  obtain rfl : u = Value.ref a := ry
  exact d_in hu I g rx fun s' I' => ⟨.bl o.isSome, H, I', rfl, q⟩)
theorem op_notInW (hu : X.A.units + 1 < cLine) : OpR X (compareOp .NotIn) (rNotInW X.K) := OpR.or op_notInV (by
  intro pins s σ H x y v u Q I rx ry h
  obtain ⟨a, o, rfl, g, q⟩ := h
  obtain rfl : u = Value.ref a := ry
  exact d_notIn hu I g rx fun s' I' => ⟨.bl (!o.isSome), H, I', rfl, q⟩)
end
section
variable {K : PySem.W.Frag} {C : Cn}
theorem vIx_seq {x y : Val} (h : ∀ kvs, x ≠ .dct kvs) : vIx x y = vIxS x y := by
  cases x with
  | dct kvs => exact absurd rfl (h kvs)
  | _ => rfl
theorem vIn_seq {x y : Val} (h : ∀ kvs, y ≠ .dct kvs) : vIn x y = vInS x y := by
  cases y with
  | dct kvs => exact absurd rfl (h kvs)
  | _ => rfl
theorem nx_ixV (x y : Val) : NX (vIx x y) := by
  unfold vIx
  split
  · exact nx_ofOpt
  · exact nx_ix _ _
theorem nx_inV (x y : Val) : NX (vIn x y) := by
  unfold vIn
  split
  · unfold vInD; split <;> first | exact nx_ok | exact nx_bad
  · exact nx_in _ _
theorem nx_notInV (x y : Val) : NX (vNotIn x y) := nx_not (nx_inV x y)
theorem ops_ixV : OpS K (rIxV K) vIx := by
  intro N H e v w x y rx ry Q ⟨z, hz, k⟩
  cases rx with
  | @dct a kvs ys h r =>
    have hz : Res.ofOpt ((keyOfV y).bind (getV ys)) = .ok z := hz
    cases hk : keyOfV y with
    | none => rw [hk] at hz; cases hz
    | some q =>
      rw [hk] at hz
      have hz : Res.ofOpt (getV ys q) = .ok z := hz
      have g := r.get (k := q)
      cases hg : getV ys q with
      | none => rw [hg] at hz; cases hz
      | some x =>
        rw [hg] at hz g
        cases hz
        obtain ⟨u, h1, h2⟩ := g
        refine .inr ⟨a, u, rfl, ?_, k N H (Gr.refl e) u h2⟩
        rw [keyOf_rv ry hk, ← h1]
        exact (h.mono e).get
  | non => exact .inl (ops_ix N H e _ w .non y .non ry Q ⟨z, hz, k⟩)
  | bl b => exact .inl (ops_ix N H e _ w (.bl b) y (.bl b) ry Q ⟨z, hz, k⟩)
  | int i => exact .inl (ops_ix N H e _ w (.int i) y (.int i) ry Q ⟨z, hz, k⟩)
  | str s => exact .inl (ops_ix N H e _ w (.str s) y (.str s) ry Q ⟨z, hz, k⟩)
  | tup h r => exact .inl (ops_ix N H e _ w _ y (.tup h r) ry Q ⟨z, hz, k⟩)
  | lst h r => exact .inl (ops_ix N H e _ w _ y (.lst h r) ry Q ⟨z, hz, k⟩)
  | dcT h r => exact .inl (ops_ix N H e _ w _ y (.dcT h r) ry Q ⟨z, hz, k⟩)
  | ob h r => exact .inl (ops_ix N H e _ w _ y (.ob h r) ry Q ⟨z, hz, k⟩)
theorem ops_inW : OpS K (rInW K) vIn := by
  intro N H e v w x y rx ry Q ⟨z, hz, k⟩
  cases ry with
  | @dct a kvs ys h r =>
    have hz : vInD x ys = .ok z := hz
    unfold vInD at hz
    cases hk : keyOfV x with
    | none => rw [hk] at hz; cases hz
    | some q =>
      rw [hk] at hz
      cases hz
      refine .inr ⟨a, valV kvs q, rfl, ?_, ?_⟩
      · rw [keyOf_rv rx hk]; exact (h.mono e).get
      · rw [r.some]; exact k N H (Gr.refl e) _ (.bl _)
  | non => exact .inl (ops_in N H e v _ x .non rx .non Q ⟨z, hz, k⟩)
  | bl b => exact .inl (ops_in N H e v _ x (.bl b) rx (.bl b) Q ⟨z, hz, k⟩)
  | int i => exact .inl (ops_in N H e v _ x (.int i) rx (.int i) Q ⟨z, hz, k⟩)
  | str s => exact .inl (ops_in N H e v _ x (.str s) rx (.str s) Q ⟨z, hz, k⟩)
  | tup h r => exact .inl (ops_in N H e v _ x _ rx (.tup h r) Q ⟨z, hz, k⟩)
  | lst h r => exact .inl (ops_in N H e v _ x _ rx (.lst h r) Q ⟨z, hz, k⟩)
  | dcT h r => exact .inl (ops_in N H e v _ x _ rx (.dcT h r) Q ⟨z, hz, k⟩)
  | ob h r => exact .inl (ops_in N H e v _ x _ rx (.ob h r) Q ⟨z, hz, k⟩)
theorem ops_notInW : OpS K (rNotInW K) vNotIn := by
  intro N H e v w x y rx ry Q ⟨z, hz, k⟩
  cases ry with
  | @dct a kvs ys h r =>
    have hz : rNot (vInD x ys) = .ok z := hz
    unfold vInD at hz
    cases hk : keyOfV x with
    | none => rw [hk] at hz; cases hz
    | some q =>
      rw [hk] at hz
      cases hz
      refine .inr ⟨a, valV kvs q, rfl, ?_, ?_⟩
      · rw [keyOf_rv rx hk]; exact (h.mono e).get
      · rw [r.some]; exact k N H (Gr.refl e) _ (.bl _)
  | non => exact .inl (ops_notIn N H e v _ x .non rx .non Q ⟨z, hz, k⟩)
  | bl b => exact .inl (ops_notIn N H e v _ x (.bl b) rx (.bl b) Q ⟨z, hz, k⟩)
  | int i => exact .inl (ops_notIn N H e v _ x (.int i) rx (.int i) Q ⟨z, hz, k⟩)
  | str s => exact .inl (ops_notIn N H e v _ x (.str s) rx (.str s) Q ⟨z, hz, k⟩)
  | tup h r => exact .inl (ops_notIn N H e v _ x _ rx (.tup h r) Q ⟨z, hz, k⟩)
  | lst h r => exact .inl (ops_notIn N H e v _ x _ rx (.lst h r) Q ⟨z, hz, k⟩)
  | dcT h r => exact .inl (ops_notIn N H e v _ x _ rx (.dcT h r) Q ⟨z, hz, k⟩)
  | ob h r => exact .inl (ops_notIn N H e v _ x _ rx (.ob h r) Q ⟨z, hz, k⟩)
end

/-! ### {k: e, ..} -/
def EvPr (K : PySem.W.Frag) (C : Cn) (trs : List (TE × TE)) (ps : List (Key × EX)) : Prop := ∀ N H σ env, Sub N H → SV K N σ env → ∀ Q : List (V × V) → Hp → Prop, PostR C σ N H (DPairs ps env) (fun xs N' H' => ∀ vs, RKs K N' vs xs → Q (vs.map fun kv => (kV kv.1, kv.2)) H') → tPairs trs σ H Q
section
variable {K : PySem.W.Frag} {C : Cn}
theorem epr_nil : EvPr K C [] [] := fun N H σ env e s Q h => h N H (Gr.refl e) [] .nil
theorem epr_cons {k : Key} {ta : TE} {ma : EX} {trs : List (TE × TE)} {ps : List (Key × EX)} (ha : EvE K C ta ma) (hr : EvPr K C trs ps) : EvPr K C ((tC (kV k), ta) :: trs) ((k, ma) :: ps) := fun N H σ env e s Q h => by
  refine ha N H σ env e s _ (PostR.imp (PostR.bind h) fun x N1 H1 g1 h1 v rv => ?_)
  refine hr N1 H1 σ env g1.nh (s.mono g1.nn) _ (PostR.imp (PostR.bind h1) fun xs N2 H2 g2 h2 vs rvs => ?_)
  exact h2 N2 H2 (Gr.refl g2.nh) ((k, v) :: vs) (.cons (rv.mono g2.nn) rvs)
theorem ev_dict {trs : List (TE × TE)} {ps : List (Key × EX)} (hp : EvPr K C trs ps) : EvE K C (tDisp trs) (eDict ps) := fun N H σ env e s Q h p hpn => by
  have hNp : N p = none := by
    cases hq : N p with
    | none => rfl
    | some o => have := e p o hq; rw [hpn] at this; cases this
  have e1 : Sub N (upd H p (.dK [])) := fun a o q => by rw [upd_ne (ne_of_none q hNp)]; exact e a o q
  have g0 : Gr N H N (upd H p (.dK [])) := ⟨fun a o q => by rw [upd_ne (ne_of_none q hpn)]; exact q, fun a o q => q, e1, fun a q => .inl q⟩
  unfold eDict at h
  cases hd : DPairs ps env with
  | bad => rw [hd] at h; exact h.elim
  | exc q =>
    rw [hd] at h
    exact hp N _ σ env e1 s _ (by rw [hd]; exact ExcP.step g0 h)
  | ok xs =>
    rw [hd] at h
    refine hp N _ σ env e1 s _ ?_
    rw [hd]
    intro N2 H2 g2 vs rvs
    have h : PostR C σ N H (if xs.length ≤ 15 then .ok (.dct (mergeV [] xs)) else .bad) (fun x N' H' => ∀ v, RV K N' v x → Q v H') := h
    split at h
    · rename_i hl
      have hH2 : H2 p = some (.dK []) := g2.hh p _ upd_same
      have hN2 : N2 p = none := by
        cases hq : N2 p with
        | none => rfl
        | some o =>
          rcases g2.nw p (by rw [hq]; simp) with h3 | h3
          · exact absurd hNp h3
          · rw [upd_same] at h3; cases h3
      refine ⟨hH2, vs, rfl, by rw [rvs.length]; exact hl, ?_⟩
      have e3 : Sub N2 (upd N2 p (.dK (mergeK [] vs))) := fun a o q => by rw [upd_ne (ne_of_none q hN2)]; exact q
      refine h (upd N2 p (.dK (mergeK [] vs))) _ ⟨fun a o q => ?_, fun a o q => e3 a o (g2.nn a o q), fun a o q => ?_, fun a q => ?_⟩ _ (.dct (.inl upd_same) (RKs.merge (RKs.mono e3 _ rvs) .nil))
      · rw [upd_ne (ne_of_none q hpn)]
        exact g2.hh a o (by rw [upd_ne (ne_of_none q hpn)]; exact q)
      · by_cases hap : a = p
        · subst hap; rw [upd_same] at q ⊢; exact q
        · rw [upd_ne hap] at q ⊢
          exact g2.nh a o q
      · by_cases hap : a = p
        · subst hap; exact .inr hpn
        · rw [upd_ne hap] at q
          rcases g2.nw a q with h3 | h3
          · exact .inl h3
          · rw [upd_ne hap] at h3; exact .inr h3
    · exact h.elim
theorem nx_getD (kvs : List (Key × Val)) (k z : Val) : NX (getD kvs k z) := by unfold getD; split <;> first | exact nx_ok | exact nx_bad
theorem getD_ok {N : Hp} {vs : List (L2.Key × V)} {xs : List (Key × Val)} {k z y : Val} {w vz : V} (r : RKs K N vs xs) (rk : RV K N w k) (rz : RV K N vz z) (h : getD xs k z = .ok y) : ∃ q, w = kV q ∧ RV K N ((valV vs q).getD vz) y := by
  unfold getD at h
  cases hk : keyOfV k with
  | none => rw [hk] at h; cases h
  | some q =>
    rw [hk] at h
    cases h
    refine ⟨q, keyOf_rv rk hk, ?_⟩
    have g := r.get (k := q)
    cases hg : getV xs q with
    | none => rw [hg] at g; rw [show valV vs q = none from g]; exact rz
    | some x =>
      rw [hg] at g
      obtain ⟨u, h1, h2⟩ := g
      rw [h1]
      exact h2
theorem ev_get1 {ta tb : TE} {ma mb : EX} (ha : EvE K C ta ma) (hb : EvE K C tb mb) : EvE K C (tDGet1 ta tb) (eGet1 ma mb) := fun N H σ env e s Q h => by
  refine ha N H σ env e s _ (PostR.imp (PostR.bind h) fun x N1 H1 g1 h1 v rv => ?_)
  cases rv with
  | @dct a kvs ys hd r =>
    refine ⟨a, rfl, .inl ⟨kvs, hd.mono g1.nh⟩, ?_⟩
    refine hb N1 H1 σ env g1.nh (s.mono g1.nn) _ (PostR.imp (PostR.bind h1) fun y N2 H2 g2 h2 w rw' => ?_)
    obtain ⟨z, hz, kk⟩ := h2.val (nx_getD _ _ _)
    obtain ⟨q, rfl, hv⟩ := getD_ok (RKs.mono g2.nn _ r) rw' .non hz
    exact ⟨valV kvs q, ((hd.mono g2.nn).mono g2.nh).get, kk N2 H2 (Gr.refl g2.nh) _ hv⟩
  | _ => exact h1.elim
theorem ev_get2 {ta tb tc : TE} {ma mb mc : EX} (ha : EvE K C ta ma) (hb : EvE K C tb mb) (hc : EvE K C tc mc) : EvE K C (tDGet2 ta tb tc) (eGet2 ma mb mc) := fun N H σ env e s Q h => by
  refine ha N H σ env e s _ (PostR.imp (PostR.bind h) fun x N1 H1 g1 h1 v rv => ?_)
  cases rv with
  | @dct a kvs ys hd r =>
    refine ⟨a, rfl, .inl ⟨kvs, hd.mono g1.nh⟩, ?_⟩
    refine hb N1 H1 σ env g1.nh (s.mono g1.nn) _ (PostR.imp (PostR.bind h1) fun y N2 H2 g2 h2 w rw' => ?_)
    refine hc N2 H2 σ env g2.nh ((s.mono g1.nn).mono g2.nn) _ (PostR.imp (PostR.bind h2) fun u N3 H3 g3 h3 vu ru => ?_)
    obtain ⟨z, hz, kk⟩ := h3.val (nx_getD _ _ _)
    obtain ⟨q, rfl, hv⟩ := getD_ok (RKs.mono g3.nn _ (RKs.mono g2.nn _ r)) (rw'.mono g3.nn) ru hz
    exact ⟨valV kvs q, (((hd.mono g2.nn).mono g3.nn).mono g3.nh).get, kk N3 H3 (Gr.refl g3.nh) _ hv⟩
  | _ => exact h1.elim
theorem indexOf_ok {x : Val} : ∀ {xs : List Val} {j : Nat}, indexOf x xs = some j → (∃ z, xs[j]? = some z ∧ eqv z x = true) ∧ ∀ m z, m < j → xs[m]? = some z → eqv z x = false
  | [], j, h => by cases h
  | y :: ys, j, h => by
    unfold indexOf at h
    cases hq : eqv y x with
    | true =>
      rw [hq] at h
      cases h
      exact ⟨⟨y, rfl, hq⟩, fun m z hm => by omega⟩
    | false =>
      rw [hq] at h
      have h : (indexOf x ys).map (· + 1) = some j := h
      cases hi : indexOf x ys with
      | none => rw [hi] at h; cases h
      | some i =>
        rw [hi] at h
        cases h
        obtain ⟨⟨z, h1, h2⟩, h3⟩ := indexOf_ok hi
        refine ⟨⟨z, by simpa using h1, h2⟩, fun m z hm hz => ?_⟩
        cases m with
        | zero => simp at hz; subst hz; exact hq
        | succ m => exact h3 m z (by have hm : m + 1 < i + 1 := hm; omega) (by simpa using hz)
theorem nx_index (xs : List Val) (x : Val) : NX (vIndex xs x) := by
  unfold vIndex
  refine nx_ite ?_ nx_bad
  split <;> first | exact nx_ok | exact nx_bad
theorem ev_index {ta tb : TE} {ma mb : EX} (ha : EvE K C ta ma) (hb : EvE K C tb mb) : EvE K C (tBM K "list" (rIndex K) ta (tCons tb tNil)) (eIndex ma mb) := fun N H σ env e s Q h => by
  refine ha N H σ env e s _ (PostR.imp (PostR.bind h) fun x N1 H1 g1 h1 v rv => ?_)
  cases rv with
  | @lst a vs xs hs r =>
    refine ⟨.inl ⟨rfl, vs, sq_mono g1.nh hs⟩, ?_⟩
    refine hb N1 H1 σ env g1.nh (s.mono g1.nn) _ (PostR.imp (PostR.bind h1) fun y N2 H2 g2 h2 w rw' => ?_)
    obtain ⟨z, hz, kk⟩ := h2.val (nx_index _ _)
    unfold vIndex at hz
    split at hz
    · rename_i hf
      rw [Bool.and_eq_true] at hf
      cases hi : indexOf y xs with
      | none => rw [hi] at hz; cases hz
      | some j =>
        rw [hi] at hz
        cases hz
        obtain ⟨⟨z, h3, h4⟩, h5⟩ := indexOf_ok hi
        obtain ⟨f1, f2⟩ := rw'.flat hf.1
        obtain ⟨f3, f4⟩ := r.flats hf.2
        have fl : ∀ {m : Nat} {z : Val}, xs[m]? = some z → z.isFlat = true := fun q => List.all_eq_true.mp hf.2 _ (List.mem_of_getElem? q)
        refine ⟨a, vs, w, j, toV z, rfl, rfl, sq_mono g2.nh (sq_mono g2.nn hs), f2, f4, by rw [f3, List.getElem?_map, h3]; rfl, ?_, fun m z' hm hz' => ?_, kk N2 H2 (Gr.refl g2.nh) _ (.int _)⟩
        · rw [f1, eqV_of (fl h3) hf.1]; exact h4
        · rw [f3, List.getElem?_map] at hz'
          cases hq : xs[m]? with
          | none => rw [hq] at hz'; cases hz'
          | some q =>
            rw [hq] at hz'
            cases hz'
            rw [f1, eqV_of (fl hq) hf.1]
            exact h5 m q hm hq
    · cases hz
  | _ => exact h1.elim
end
end Vm

/-! The value machine over HandS: statements. -/
namespace Vm
open PySem L2 PyProof.Rows

/- a tree of a slot's own: the addresses of what may change -/
mutual
inductive RT (K : PySem.W.Frag) (M H : Hp) : V → Tr → List Addr → Prop
  | v {v : V} {x : Val} : RV K M v x → RT K M H v (.v x) []
  | l {a : Addr} {vs : List V} {ts : List Tr} {f : List Addr} : H a = some (.lst vs) → RTl K M H vs ts f → RT K M H (.ref a) (.l ts) (a :: f)
  | d {a : Addr} {vs : List (L2.Key × V)} {ts : List (Key × Tr)} {f : List Addr} : H a = some (.dK vs) → RTd K M H vs ts f → RT K M H (.ref a) (.d ts) (a :: f)
  | dT {a : Addr} {vs : List (List L2.Key × V)} {ts : List (List Key × Tr)} {f : List Addr} : H a = some (.dT vs) → RTt K M H vs ts f → RT K M H (.ref a) (.dT ts) (a :: f)
  | o {a dx : Addr} {c : Str} {vs : List (Str × V)} {ts : List (Str × Tr)} {f : List Addr} : H a = some (.ins (He.ga K c) dx vs) → H dx = some (.own a) → RTo K M H vs ts f → RT K M H (.ref a) (.o c ts) (a :: dx :: f)
inductive RTl (K : PySem.W.Frag) (M H : Hp) : List V → List Tr → List Addr → Prop
  | nil : RTl K M H [] [] []
  | cons {v : V} {vs : List V} {t : Tr} {ts : List Tr} {f fs : List Addr} : RT K M H v t f → RTl K M H vs ts fs → RTl K M H (v :: vs) (t :: ts) (f ++ fs)
inductive RTd (K : PySem.W.Frag) (M H : Hp) : List (L2.Key × V) → List (Key × Tr) → List Addr → Prop
  | nil : RTd K M H [] [] []
  | cons {k : Key} {v : V} {vs : List (L2.Key × V)} {t : Tr} {ts : List (Key × Tr)} {f fs : List Addr} : RT K M H v t f → RTd K M H vs ts fs → RTd K M H ((k, v) :: vs) ((k, t) :: ts) (f ++ fs)
inductive RTt (K : PySem.W.Frag) (M H : Hp) : List (List L2.Key × V) → List (List Key × Tr) → List Addr → Prop
  | nil : RTt K M H [] [] []
  | cons {k : List Key} {v : V} {vs : List (List L2.Key × V)} {t : Tr} {ts : List (List Key × Tr)} {f fs : List Addr} : RT K M H v t f → RTt K M H vs ts fs → RTt K M H ((k, v) :: vs) ((k, t) :: ts) (f ++ fs)
inductive RTo (K : PySem.W.Frag) (M H : Hp) : List (Str × V) → List (Str × Tr) → List Addr → Prop
  | nil : RTo K M H [] [] []
  | cons {k : Str} {v : V} {vs : List (Str × V)} {t : Tr} {ts : List (Str × Tr)} {f fs : List Addr} : RT K M H v t f → RTo K M H vs ts fs → RTo K M H ((k, v) :: vs) ((k, t) :: ts) (f ++ fs)
end
/-- what a slot may own -/
def OwnO : HO → Prop
  | .lst _ => True
  | .dK _ => True
  | .dT _ => True
  | .ins _ _ _ => True
  | .own _ => True
  | _ => False
section
variable {K : PySem.W.Frag} {M H M' H' : Hp}
mutual
theorem RT.mono (em : Sub M M') : ∀ (t : Tr) {v : V} {f : List Addr}, (∀ a ∈ f, H' a = H a) → RT K M H v t f → RT K M' H' v t f
  | .v x, _, _, _, .v r => .v (r.mono em)
  | .l ts, _, _, eh, .l h r => .l (by rw [eh _ List.mem_cons_self]; exact h) (RTl.mono em ts (fun a ha => eh a (List.mem_cons_of_mem _ ha)) r)
  | .d ts, _, _, eh, .d h r => .d (by rw [eh _ List.mem_cons_self]; exact h) (RTd.mono em ts (fun a ha => eh a (List.mem_cons_of_mem _ ha)) r)
  | .dT ts, _, _, eh, .dT h r => .dT (by rw [eh _ List.mem_cons_self]; exact h) (RTt.mono em ts (fun a ha => eh a (List.mem_cons_of_mem _ ha)) r)
  | .o c ts, _, _, eh, .o h h' r => .o (by rw [eh _ List.mem_cons_self]; exact h) (by rw [eh _ (List.mem_cons_of_mem _ List.mem_cons_self)]; exact h') (RTo.mono em ts (fun a ha => eh a (List.mem_cons_of_mem _ (List.mem_cons_of_mem _ ha))) r)
theorem RTl.mono (em : Sub M M') : ∀ (ts : List Tr) {vs : List V} {f : List Addr}, (∀ a ∈ f, H' a = H a) → RTl K M H vs ts f → RTl K M' H' vs ts f
  | [], _, _, _, .nil => .nil
  | t :: ts, _, _, eh, .cons r r' => .cons (RT.mono em t (fun a ha => eh a (List.mem_append_left _ ha)) r) (RTl.mono em ts (fun a ha => eh a (List.mem_append_right _ ha)) r')
theorem RTd.mono (em : Sub M M') : ∀ (ts : List (Key × Tr)) {vs : List (L2.Key × V)} {f : List Addr}, (∀ a ∈ f, H' a = H a) → RTd K M H vs ts f → RTd K M' H' vs ts f
  | [], _, _, _, .nil => .nil
  | (_, t) :: ts, _, _, eh, .cons r r' => .cons (RT.mono em t (fun a ha => eh a (List.mem_append_left _ ha)) r) (RTd.mono em ts (fun a ha => eh a (List.mem_append_right _ ha)) r')
theorem RTt.mono (em : Sub M M') : ∀ (ts : List (List Key × Tr)) {vs : List (List L2.Key × V)} {f : List Addr}, (∀ a ∈ f, H' a = H a) → RTt K M H vs ts f → RTt K M' H' vs ts f
  | [], _, _, _, .nil => .nil
  | (_, t) :: ts, _, _, eh, .cons r r' => .cons (RT.mono em t (fun a ha => eh a (List.mem_append_left _ ha)) r) (RTt.mono em ts (fun a ha => eh a (List.mem_append_right _ ha)) r')
theorem RTo.mono (em : Sub M M') : ∀ (ts : List (Str × Tr)) {vs : List (Str × V)} {f : List Addr}, (∀ a ∈ f, H' a = H a) → RTo K M H vs ts f → RTo K M' H' vs ts f
  | [], _, _, _, .nil => .nil
  | (_, t) :: ts, _, _, eh, .cons r r' => .cons (RT.mono em t (fun a ha => eh a (List.mem_append_left _ ha)) r) (RTo.mono em ts (fun a ha => eh a (List.mem_append_right _ ha)) r')
end
mutual
theorem RT.kinds : ∀ (t : Tr) {v : V} {f : List Addr}, RT K M H v t f → ∀ a ∈ f, ∃ o, H a = some o ∧ OwnO o
  | .v x, _, _, .v r, a, ha => by cases ha
  | .l ts, _, _, .l h r, a, ha => by
    rcases List.mem_cons.mp ha with rfl | ha
    · exact ⟨_, h, trivial⟩
    · exact RTl.kinds ts r a ha
  | .d ts, _, _, .d h r, a, ha => by
    rcases List.mem_cons.mp ha with rfl | ha
    · exact ⟨_, h, trivial⟩
    · exact RTd.kinds ts r a ha
  | .dT ts, _, _, .dT h r, a, ha => by
    rcases List.mem_cons.mp ha with rfl | ha
    · exact ⟨_, h, trivial⟩
    · exact RTt.kinds ts r a ha
  | .o c ts, _, _, .o h h' r, a, ha => by
    rcases List.mem_cons.mp ha with rfl | ha
    · exact ⟨_, h, trivial⟩
    · rcases List.mem_cons.mp ha with rfl | ha
      · exact ⟨_, h', trivial⟩
      · exact RTo.kinds ts r a ha
theorem RTl.kinds : ∀ (ts : List Tr) {vs : List V} {f : List Addr}, RTl K M H vs ts f → ∀ a ∈ f, ∃ o, H a = some o ∧ OwnO o
  | [], _, _, .nil, a, ha => by cases ha
  | t :: ts, _, _, .cons r r', a, ha => by
    rcases List.mem_append.mp ha with ha | ha
    · exact RT.kinds t r a ha
    · exact RTl.kinds ts r' a ha
theorem RTd.kinds : ∀ (ts : List (Key × Tr)) {vs : List (L2.Key × V)} {f : List Addr}, RTd K M H vs ts f → ∀ a ∈ f, ∃ o, H a = some o ∧ OwnO o
  | [], _, _, .nil, a, ha => by cases ha
  | (_, t) :: ts, _, _, .cons r r', a, ha => by
    rcases List.mem_append.mp ha with ha | ha
    · exact RT.kinds t r a ha
    · exact RTd.kinds ts r' a ha
theorem RTt.kinds : ∀ (ts : List (List Key × Tr)) {vs : List (List L2.Key × V)} {f : List Addr}, RTt K M H vs ts f → ∀ a ∈ f, ∃ o, H a = some o ∧ OwnO o
  | [], _, _, .nil, a, ha => by cases ha
  | (_, t) :: ts, _, _, .cons r r', a, ha => by
    rcases List.mem_append.mp ha with ha | ha
    · exact RT.kinds t r a ha
    · exact RTt.kinds ts r' a ha
theorem RTo.kinds : ∀ (ts : List (Str × Tr)) {vs : List (Str × V)} {f : List Addr}, RTo K M H vs ts f → ∀ a ∈ f, ∃ o, H a = some o ∧ OwnO o
  | [], _, _, .nil, a, ha => by cases ha
  | (_, t) :: ts, _, _, .cons r r', a, ha => by
    rcases List.mem_append.mp ha with ha | ha
    · exact RT.kinds t r a ha
    · exact RTo.kinds ts r' a ha
end
/- the tree as a value, over a part that has its own things, too -/
mutual
theorem RT.rv {N : Hp} (e : Sub M N) : ∀ (t : Tr) {v : V} {f : List Addr}, (∀ a ∈ f, N a = H a) → RT K M H v t f → RV K N v t.val
  | .v x, _, _, _, .v r => r.mono e
  | .l ts, _, _, en, .l h r => .lst (SqL.of (by rw [en _ List.mem_cons_self]; exact h)) (RTl.rv e ts (fun a ha => en a (List.mem_cons_of_mem _ ha)) r)
  | .d ts, _, _, en, .d h r => .dct (.inl (show N _ = _ by rw [en _ List.mem_cons_self]; exact h)) (RTd.rv e ts (fun a ha => en a (List.mem_cons_of_mem _ ha)) r)
  | .dT ts, _, _, en, .dT h r => .dcT (by rw [en _ List.mem_cons_self]; exact h) (RTt.rv e ts (fun a ha => en a (List.mem_cons_of_mem _ ha)) r)
  | .o c ts, _, _, en, .o h h' r => .ob (by rw [en _ List.mem_cons_self]; exact h) (RTo.rv e ts (fun a ha => en a (List.mem_cons_of_mem _ (List.mem_cons_of_mem _ ha))) r)
theorem RTl.rv {N : Hp} (e : Sub M N) : ∀ (ts : List Tr) {vs : List V} {f : List Addr}, (∀ a ∈ f, N a = H a) → RTl K M H vs ts f → RVs K N vs (Tr.vals ts)
  | [], _, _, _, .nil => .nil
  | t :: ts, _, _, en, .cons r r' => .cons (RT.rv e t (fun a ha => en a (List.mem_append_left _ ha)) r) (RTl.rv e ts (fun a ha => en a (List.mem_append_right _ ha)) r')
theorem RTd.rv {N : Hp} (e : Sub M N) : ∀ (ts : List (Key × Tr)) {vs : List (L2.Key × V)} {f : List Addr}, (∀ a ∈ f, N a = H a) → RTd K M H vs ts f → RKs K N vs (Tr.valsD ts)
  | [], _, _, _, .nil => .nil
  | (_, t) :: ts, _, _, en, .cons r r' => .cons (RT.rv e t (fun a ha => en a (List.mem_append_left _ ha)) r) (RTd.rv e ts (fun a ha => en a (List.mem_append_right _ ha)) r')
theorem RTt.rv {N : Hp} (e : Sub M N) : ∀ (ts : List (List Key × Tr)) {vs : List (List L2.Key × V)} {f : List Addr}, (∀ a ∈ f, N a = H a) → RTt K M H vs ts f → RTs K N vs (Tr.valsT ts)
  | [], _, _, _, .nil => .nil
  | (_, t) :: ts, _, _, en, .cons r r' => .cons (RT.rv e t (fun a ha => en a (List.mem_append_left _ ha)) r) (RTt.rv e ts (fun a ha => en a (List.mem_append_right _ ha)) r')
theorem RTo.rv {N : Hp} (e : Sub M N) : ∀ (ts : List (Str × Tr)) {vs : List (Str × V)} {f : List Addr}, (∀ a ∈ f, N a = H a) → RTo K M H vs ts f → RFs K N vs (Tr.valsO ts)
  | [], _, _, _, .nil => .nil
  | (_, t) :: ts, _, _, en, .cons r r' => .cons (RT.rv e t (fun a ha => en a (List.mem_append_left _ ha)) r) (RTo.rv e ts (fun a ha => en a (List.mem_append_right _ ha)) r')
end
end
/-- one slot, with the addresses of its own -/
inductive SlR1 (K : PySem.W.Frag) (me : V) (M H : Hp) : Option V → Slot → List Addr → Prop
  | un (s : Option V) : SlR1 K me M H s .un []
  | sh {v : V} {x : Val} : RV K M v x → SlR1 K me M H (some v) (.sh x) []
  | oL {a : Addr} {vs : List V} {xs : List Val} : H a = some (.lst vs) → RVs K M vs xs → SlR1 K me M H (some (.ref a)) (.oL xs) [a]
  | oD {a : Addr} {vs : List (L2.Key × V)} {xs : List (Key × Val)} : H a = some (.dK vs) → RKs K M vs xs → SlR1 K me M H (some (.ref a)) (.oD xs) [a]
  | oT {v : V} {t : Tr} {f : List Addr} : RT K M H v t f → SlR1 K me M H (some v) (.oT t) f
  | me {t : Tr} {f : List Addr} : RT K M H me t f → SlR1 K me M H (some me) (.me t) f
inductive SO (K : PySem.W.Frag) (me : V) (M H : Hp) : L2.St → Env → List Addr → Prop
  | nil : SO K me M H [] [] []
  | cons {s : Option V} {e : Slot} {f fs : List Addr} {σ : L2.St} {env : Env} : SlR1 K me M H s e f → SO K me M H σ env fs → SO K me M H (s :: σ) (e :: env) (f ++ fs)
section
variable {K : PySem.W.Frag} {me : V} {M H M' H' : Hp} {σ : L2.St} {env : Env} {fs : List Addr}
theorem SlR1.mono {s : Option V} {e : Slot} {f : List Addr} (em : Sub M M') (eh : ∀ a ∈ f, H' a = H a) (h : SlR1 K me M H s e f) : SlR1 K me M' H' s e f := by
  cases h with
  | un => exact .un _
  | sh r => exact .sh (r.mono em)
  | oL h r => exact .oL (by rw [eh _ List.mem_cons_self]; exact h) (r.mono em)
  | oD h r => exact .oD (by rw [eh _ List.mem_cons_self]; exact h) (r.mono em)
  | oT r => exact .oT (RT.mono em _ eh r)
  | me r => exact .me (RT.mono em _ eh r)
theorem SO.mono (em : Sub M M') (eh : ∀ a ∈ fs, H' a = H a) (h : SO K me M H σ env fs) : SO K me M' H' σ env fs := by
  induction h with
  | nil => exact .nil
  | cons r _ ih => exact .cons (r.mono em fun a ha => eh a (List.mem_append_left _ ha)) (ih fun a ha => eh a (List.mem_append_right _ ha))
theorem SO.known (h : SO K me M H σ env fs) : ∀ a ∈ fs, H a ≠ none := by
  induction h with
  | nil => intro a ha; cases ha
  | cons r _ ih =>
    intro a ha
    rcases List.mem_append.mp ha with ha | ha
    · cases r with
      | un => cases ha
      | sh => cases ha
      | oL h _ => rw [List.mem_singleton] at ha; subst ha; rw [h]; simp
      | oD h _ => rw [List.mem_singleton] at ha; subst ha; rw [h]; simp
      | oT r =>
        obtain ⟨o, h, _⟩ := RT.kinds _ r a ha
        rw [h]; simp
      | me r =>
        obtain ⟨o, h, _⟩ := RT.kinds _ r a ha
        rw [h]; simp
    · exact ih a ha
theorem SO.len (h : SO K me M H σ env fs) : σ.length = env.length := by
  induction h with
  | nil => rfl
  | cons _ _ ih => exact congrArg (· + 1) ih
/-- the i-th slot apart -/
theorem SO.at (h : SO K me M H σ env fs) : ∀ {i : Nat} {e : Slot}, env[i]? = some e → ∃ s f1 f f2, σ[i]? = some s ∧ fs = f1 ++ (f ++ f2) ∧ SlR1 K me M H s e f ∧
    ∀ {M' H' : Hp} {s' : Option V} {e' : Slot} {f' : List Addr}, Sub M M' → (∀ a ∈ f1 ++ f2, H' a = H a) → SlR1 K me M' H' s' e' f' → SO K me M' H' (σ.set i s') (env.set i e') (f1 ++ (f' ++ f2)) := by
  induction h with
  | nil => intro i e h; simp at h
  | @cons s e f fs σ env r t ih =>
    intro i e0 h
    cases i with
    | zero =>
      simp at h
      subst h
      refine ⟨s, [], f, fs, rfl, rfl, r, @fun M' H' s' e' f' em eh r' => ?_⟩
      show SO K me M' H' (s' :: σ) (e' :: env) (f' ++ fs)
      exact SO.cons r' (t.mono em fun a ha => eh a (by simpa using ha))
    | succ i =>
      obtain ⟨s0, f1, g, f2, h1, h2, h3, h4⟩ := ih (i := i) (e := e0) (by simpa using h)
      refine ⟨s0, f ++ f1, g, f2, by simpa using h1, by rw [h2, List.append_assoc], h3, fun em eh r' => ?_⟩
      have := h4 em (fun a ha => eh a (by simp only [List.mem_append] at ha ⊢; rcases ha with ha | ha <;> simp [ha])) r'
      rw [List.append_assoc]
      exact .cons (r.mono em fun a ha => eh a (by simp [ha])) this
end

structure Bs where
  m : Hp
  h : Hp
  l : Hp
  me : V := .non
structure SR (K : PySem.W.Frag) (B : Bs) (M H : Hp) (σ : L2.St) (env : Env) (fs : List Addr) : Prop where
  g : Gr B.m B.h M H
  lo : Sub B.l M
  fr : ∀ a ∈ fs, M a = none ∧ B.h a = none
  nd : fs.Nodup
  sl : SO K B.me M H σ env fs
theorem SR.at_low {K : PySem.W.Frag} {B : Bs} {M M1 H : Hp} {σ : L2.St} {env : Env} {fs : List Addr} (S : SR K B M H σ env fs) (e : Sub M1 M) : SR K { B with l := M1 } M H σ env fs := ⟨S.g, e, S.fr, S.nd, S.sl⟩
theorem SR.of_low {K : PySem.W.Frag} {B : Bs} {M M1 H : Hp} {σ : L2.St} {env : Env} {fs : List Addr} (e : Sub B.l M1) (S : SR K { B with l := M1 } M H σ env fs) : SR K B M H σ env fs := ⟨S.g, e.trans S.lo, S.fr, S.nd, S.sl⟩
/-- all that stands, the slots' own lists too -/
def full (M H : Hp) (fs : List Addr) : Hp := fun a => if a ∈ fs then H a else M a
/-- what stays, where the slots' own lists are left out -/
def part (N : Hp) (fs : List Addr) : Hp := fun a => if a ∈ fs then none else N a
section
variable {K : PySem.W.Frag} {B : Bs} {M H M' H' N' : Hp} {σ : L2.St} {env : Env} {fs : List Addr}
theorem full_sub (S : SR K B M H σ env fs) : Sub (full M H fs) H := fun a o q => by
  unfold full at q
  split at q
  · exact q
  · exact S.g.nh a o q
theorem sub_full (S : SR K B M H σ env fs) : Sub M (full M H fs) := fun a o q => by
  unfold full
  rw [if_neg fun h => by rw [(S.fr a h).1] at q; cases q]
  exact q
theorem full_gr (S : SR K B M H σ env fs) : Gr B.m B.h (full M H fs) H := by
  refine ⟨S.g.hh, fun a o q => sub_full S a o (S.g.nn a o q), full_sub S, fun a q => ?_⟩
  unfold full at q
  split at q
  · rename_i h; exact .inr (S.fr a h).2
  · exact S.g.nw a q
theorem SO.sv {me : V} {N : Hp} (e : Sub M N) (en : ∀ a ∈ fs, N a = H a) (h : SO K me M H σ env fs) : SV K N σ env := by
  induction h with
  | nil => exact .nil
  | @cons s e' f fs σ env r _ ih =>
    have ih' := ih fun a ha => en a (List.mem_append_right _ ha)
    cases r with
    | un => exact .un ih'
    | sh r => exact .sh (r.mono e) ih'
    | oL h r => exact .oL (.lst (SqL.of (by rw [en _ (by simp)]; exact h)) (r.mono e)) ih'
    | oD h r => exact .oD (.dct (.inl (show N _ = _ by rw [en _ (by simp)]; exact h)) (r.mono e)) ih'
    | oT r => exact .oT (RT.rv e _ (fun a ha => en a (List.mem_append_left _ ha)) r) ih'
    | me r => exact .me (RT.rv e _ (fun a ha => en a (List.mem_append_left _ ha)) r) ih'
theorem SR.sv (S : SR K B M H σ env fs) : SV K (full M H fs) σ env := S.sl.sv (sub_full S) fun a ha => if_pos ha
theorem SO.hid {me : V} (h : SO K me M H σ env fs) : SV K M σ (hide env) := by
  induction h with
  | nil => exact .nil
  | cons r _ ih =>
    cases r with
    | un => exact .un ih
    | sh r => exact .sh r ih
    | oL _ _ => exact .un ih
    | oD _ _ => exact .un ih
    | oT _ => exact .un ih
    | me _ => exact .un ih
/-- behind an expression over all that stands -/
theorem SR.behind (S : SR K B M H σ env fs) (g : Gr (full M H fs) H N' H') : SR K B (part N' fs) H' σ env fs := by
  have em : Sub M (part N' fs) := fun a o q => by
    unfold part
    rw [if_neg fun h => by rw [(S.fr a h).1] at q; cases q]
    exact g.nn a o (sub_full S a o q)
  refine ⟨⟨S.g.hh.trans g.hh, fun a o q => em a o (S.g.nn a o q), fun a o q => ?_, fun a q => ?_⟩, S.lo.trans em, fun a ha => ⟨if_pos ha, (S.fr a ha).2⟩, S.nd, S.sl.mono em fun a ha => ?_⟩
  · unfold part at q
    split at q
    · cases q
    · exact g.nh a o q
  · unfold part at q
    split at q
    · exact absurd rfl q
    · rename_i ha
      rcases g.nw a q with h | h
      · unfold full at h
        rw [if_neg ha] at h
        exact S.g.nw a h
      · exact .inr (S.g.hh.free h)
  · cases hq : H a with
    | none => exact absurd hq (S.sl.known a ha)
    | some o => exact g.hh a o hq
/-- behind an expression over what stays -/
theorem SR.behindH (S : SR K B M H σ env fs) (g : Gr M H M' H') : SR K B M' H' σ env fs := by
  refine ⟨S.g.trans g, S.lo.trans g.nn, fun a ha => ⟨?_, (S.fr a ha).2⟩, S.nd, S.sl.mono g.nn fun a ha => ?_⟩
  · cases hq : M' a with
    | none => rfl
    | some o =>
      rcases g.nw a (by rw [hq]; simp) with h | h
      · exact absurd (S.fr a ha).1 h
      · exact absurd h (S.sl.known a ha)
  · cases hq : H a with
    | none => exact absurd hq (S.sl.known a ha)
    | some o => exact g.hh a o hq
mutual
theorem RV.strip {N : Hp} (hn : ∀ a ∈ fs, ∃ o, N a = some o ∧ OwnO o) : ∀ (x : Val) {v : V}, RV K N v x → x.noLst = true → RV K (part N fs) v x
  | .non, _, .non, _ => .non
  | .bl _, _, .bl b, _ => .bl b
  | .int _, _, .int i, _ => .int i
  | .str _, _, .str x, _ => .str x
  | .tup xs, _, .tup (a := a) (vs := vs) h r, e => by
    have hx := RVs.strip hn xs r e
    refine .tup ?_ hx
    rcases h with (h | ⟨o, h⟩) | h
    · refine .inl (.inl ?_)
      unfold part
      rw [if_neg fun ha => by
        obtain ⟨o', q, q'⟩ := hn a ha
        rw [h] at q
        cases q
        exact q']
      exact h
    · refine .inl (.inr ⟨o, ?_⟩)
      unfold part
      rw [if_neg fun ha => by
        obtain ⟨o', q, q'⟩ := hn a ha
        rw [h] at q
        cases q
        exact q']
      exact h
    · exact .inr h
  | .lst _, _, _, e => by simp [Val.noLst] at e
  | .dct _, _, _, e => by simp [Val.noLst] at e
  | .dcT _, _, _, e => by simp [Val.noLst] at e
  | .ob _ _, _, _, e => by simp [Val.noLst] at e
theorem RVs.strip {N : Hp} (hn : ∀ a ∈ fs, ∃ o, N a = some o ∧ OwnO o) : ∀ (xs : List Val) {vs : List V}, RVs K N vs xs → Val.noLsts xs = true → RVs K (part N fs) vs xs
  | [], _, .nil, _ => .nil
  | x :: xs, _, .cons h r, e => by
    simp only [Val.noLsts, Bool.and_eq_true] at e
    exact .cons (RV.strip hn x h e.1) (RVs.strip hn xs r e.2)
end
theorem SO.kinds {me : V} (h : SO K me M H σ env fs) : ∀ a ∈ fs, ∃ o, H a = some o ∧ OwnO o := by
  induction h with
  | nil => intro a ha; cases ha
  | cons r _ ih =>
    intro a ha
    rcases List.mem_append.mp ha with ha | ha
    · cases r with
      | un => cases ha
      | sh => cases ha
      | oL h _ => rw [List.mem_singleton] at ha; subst ha; exact ⟨_, h, trivial⟩
      | oD h _ => rw [List.mem_singleton] at ha; subst ha; exact ⟨_, h, trivial⟩
      | oT r => exact RT.kinds _ r a ha
      | me r => exact RT.kinds _ r a ha
    · exact ih a ha
theorem SR.kindsN (S : SR K B M H σ env fs) (g : Gr (full M H fs) H N' H') : ∀ a ∈ fs, ∃ o, N' a = some o ∧ OwnO o := fun a ha => by
  obtain ⟨o, h, h'⟩ := S.sl.kinds a ha
  exact ⟨o, g.nn a _ (by unfold full; rw [if_pos ha]; exact h), h'⟩
theorem nodup_mid {f1 f f' f2 : List Addr} (h : (f1 ++ (f ++ f2)).Nodup) (h1 : f'.Nodup) (h2 : ∀ a ∈ f', a ∉ f1 ++ f2) : (f1 ++ (f' ++ f2)).Nodup := by
  rw [List.nodup_append] at h ⊢
  obtain ⟨a, b, c⟩ := h
  rw [List.nodup_append] at b
  refine ⟨a, List.nodup_append.mpr ⟨h1, b.2.1, fun x hx y hy z => ?_⟩, fun x hx y hy z => ?_⟩
  · subst z; exact h2 x hx (List.mem_append_right _ hy)
  · subst z
    rcases List.mem_append.mp hy with hy | hy
    · exact h2 x hy (List.mem_append_left _ hx)
    · exact c x hx x (List.mem_append_right _ hy) rfl
/-- a slot gets a value that stays (or nothing) -/
theorem SR.put (S : SR K B M H σ env fs) {i : Nat} (hi : i < env.length) {s : Option V} {e : Slot} (r : SlR1 K B.me M H s e []) : ∃ fs', SR K B M H (σ.set i s) (env.set i e) fs' := by
  obtain ⟨s0, f1, f, f2, h1, h2, h3, h4⟩ := S.sl.at (List.getElem?_eq_getElem hi)
  refine ⟨f1 ++ ([] ++ f2), S.g, S.lo, fun a ha => S.fr a ?_, ?_, h4 (Same.refl _) (fun _ _ => rfl) r⟩
  · rw [h2]
    simp only [List.nil_append, List.mem_append] at ha ⊢
    rcases ha with ha | ha <;> simp [ha]
  · exact nodup_mid (by rw [← h2]; exact S.nd) .nil fun a ha => by cases ha
theorem SR.put2 (S : SR K B M H σ env fs) {i : Nat} (hi : i < env.length) {s : Option V} {e : Slot} (r : SlR1 K B.me M H s e []) : ∃ fs', SR K B M H (σ.set i s) (env.set i e) fs' ∧ ∀ a ∈ fs', a ∈ fs := by
  obtain ⟨s0, f1, f, f2, h1, h2, h3, h4⟩ := S.sl.at (List.getElem?_eq_getElem hi)
  refine ⟨f1 ++ ([] ++ f2), ⟨S.g, S.lo, fun a ha => S.fr a ?_, ?_, h4 (Same.refl _) (fun _ _ => rfl) r⟩, fun a ha => ?_⟩
  · rw [h2]
    simp only [List.nil_append, List.mem_append] at ha ⊢
    rcases ha with ha | ha <;> simp [ha]
  · exact nodup_mid (by rw [← h2]; exact S.nd) .nil fun a ha => by cases ha
  · rw [h2]
    simp only [List.nil_append, List.mem_append] at ha ⊢
    rcases ha with ha | ha <;> simp [ha]
theorem SR.putV (S : SR K B M H σ env fs) {i : Nat} {v : V} {x : Val} (r : RV K M v x) : ∃ fs', SR K B M H (σ.set i (some v)) (env.set i (.sh x)) fs' := by
  by_cases hi : i < env.length
  · exact S.put hi (.sh r)
  · rw [List.set_eq_of_length_le (by rw [S.sl.len]; omega), List.set_eq_of_length_le (by omega)]
    exact ⟨fs, S⟩
theorem SR.forget (S : SR K B M H σ env fs) {i : Nat} : ∃ fs', SR K B M H σ (env.set i .un) fs' := by
  by_cases hi : i < env.length
  · have hl : i < σ.length := by rw [S.sl.len]; exact hi
    obtain ⟨fs', S'⟩ := S.put hi (.un σ[i])
    rw [List.set_getElem_self] at S'
    exact ⟨fs', S'⟩
  · rw [List.set_eq_of_length_le (by omega)]
    exact ⟨fs, S⟩
theorem SR.forgets : ∀ {is : List Nat} {fs : List Addr}, SR K B M H σ env fs → ∃ fs', SR K B M H σ (wipeE env is) fs'
  | [], fs, S => ⟨fs, S⟩
  | i :: is, fs, S => by
    obtain ⟨fs', S'⟩ := SR.forgets (is := is) S
    exact S'.forget
theorem SR.sets : ∀ {l : List (Nat × V × Val)} {σ : L2.St} {env : Env} {fs : List Addr}, SR K B M H σ env fs → (∀ t ∈ l, RV K M t.2.1 t.2.2) → ∃ fs', SR K B M H (setsS σ l) (setsE env l) fs'
  | [], _, _, fs, S, _ => ⟨fs, S⟩
  | t :: l, σ, env, fs, S, h => by
    obtain ⟨fs', S'⟩ := S.putV (i := t.1) (h t List.mem_cons_self)
    exact SR.sets (l := l) S' fun t' ht => h t' (List.mem_cons_of_mem _ ht)
/-- a slot gets a new list of its own -/
theorem SR.own (S : SR K B M H σ env fs) {i : Nat} (hi : i < env.length) {p : Addr} {vs : List V} {xs : List Val} (hp : H p = none) (r : RVs K M vs xs) : ∃ fs', SR K B M (upd H p (.lst vs)) (σ.set i (some (.ref p))) (env.set i (.oL xs)) fs' := by
  obtain ⟨s0, f1, f, f2, h1, h2, h3, h4⟩ := S.sl.at (List.getElem?_eq_getElem hi)
  have hne : ∀ a, H a ≠ none → a ≠ p := fun a h z => by subst z; exact h hp
  have hM : M p = none := by
    cases hq : M p with
    | none => rfl
    | some o => have := S.g.nh p o hq; rw [hp] at this; cases this
  have hB : B.h p = none := S.g.hh.free hp
  refine ⟨f1 ++ ([p] ++ f2), ⟨S.g.hh.trans fun a o q => by rw [upd_ne (hne a (by rw [q]; simp))]; exact q, S.g.nn, fun a o q => ?_, S.g.nw⟩, S.lo, fun a ha => ?_, ?_, h4 (Same.refl _) (fun a ha => upd_ne (hne a (S.sl.known a ?_))) (.oL upd_same r)⟩
  · have := S.g.nh a o q
    rw [upd_ne (hne a (by rw [this]; simp))]
    exact this
  · simp only [List.mem_append, List.mem_singleton] at ha
    rcases ha with ha | ha | ha
    · exact S.fr a (by rw [h2]; simp [ha])
    · subst ha; exact ⟨hM, hB⟩
    · exact S.fr a (by rw [h2]; simp [ha])
  · refine nodup_mid (by rw [← h2]; exact S.nd) (List.nodup_cons.mpr ⟨by simp, .nil⟩) fun a ha hb => ?_
    rw [List.mem_singleton] at ha
    subst ha
    exact S.sl.known a (by rw [h2]; simp only [List.mem_append] at hb ⊢; rcases hb with h | h <;> simp [h]) hp
  · rw [h2]
    simp only [List.mem_append] at ha ⊢
    rcases ha with h | h <;> simp [h]
/-- the slot's own list is written -/
theorem SR.write (S : SR K B M H σ env fs) {i : Nat} {xs : List Val} (hi : env[i]? = some (.oL xs)) : ∃ a vs, σ[i]? = some (some (.ref a)) ∧ H a = some (.lst vs) ∧ RVs K M vs xs ∧
    ∀ {ws : List V} {ys : List Val}, RVs K M ws ys → SR K B M (upd H a (.lst ws)) σ (env.set i (.oL ys)) fs := by
  obtain ⟨s0, f1, f, f2, h1, h2, h3, h4⟩ := S.sl.at hi
  cases h3 with
  | @oL a vs _ ha r =>
    refine ⟨a, vs, h1, ha, r, fun {ws ys} r' => ?_⟩
    have hfs : a ∈ fs := by rw [h2]; simp
    have hne : ∀ b ∈ f1 ++ f2, b ≠ a := fun b hb z => by
      subst z
      have hn := S.nd
      rw [h2, List.nodup_append] at hn
      obtain ⟨_, n2, n3⟩ := hn
      rcases List.mem_append.mp hb with hb | hb
      · exact n3 b hb b (by simp) rfl
      · rw [List.nodup_append] at n2
        exact n2.2.2 b (by simp) b hb rfl
    have hsl := h4 (M' := M) (H' := upd H a (.lst ws)) (Same.refl _) (fun b hb => upd_ne (hne b hb)) (.oL upd_same r')
    have hset : σ.set i (some (.ref a)) = σ := by
      obtain ⟨hl, he⟩ := List.getElem?_eq_some_iff.mp h1
      rw [← he, List.set_getElem_self]
    rw [hset] at hsl
    have hB := (S.fr a hfs).2
    have hM := (S.fr a hfs).1
    refine ⟨⟨fun b o q => ?_, S.g.nn, fun b o q => ?_, S.g.nw⟩, S.lo, S.fr, S.nd, by rw [h2]; exact hsl⟩
    · rw [upd_ne (ne_of_none q hB)]
      exact S.g.hh b o q
    · rw [upd_ne (ne_of_none q hM)]
      exact S.g.nh b o q
/-- the slot's own list stays from here on -/
theorem SR.freeze (S : SR K B M H σ env fs) {i : Nat} {xs : List Val} (hi : env[i]? = some (.oL xs)) : ∃ M' fs', SR K B M' H σ (env.set i (.sh (.lst xs))) fs' := by
  obtain ⟨s0, f1, f, f2, h1, h2, h3, h4⟩ := S.sl.at hi
  cases h3 with
  | @oL a vs _ ha r =>
    have hfs : a ∈ fs := by rw [h2]; simp
    have hne : ∀ b ∈ f1 ++ f2, b ≠ a := fun b hb z => by
      subst z
      have hn := S.nd
      rw [h2, List.nodup_append] at hn
      obtain ⟨_, n2, n3⟩ := hn
      rcases List.mem_append.mp hb with hb | hb
      · exact n3 b hb b (by simp) rfl
      · rw [List.nodup_append] at n2
        exact n2.2.2 b (by simp) b hb rfl
    have hB := (S.fr a hfs).2
    have hM := (S.fr a hfs).1
    have em : Sub M (upd M a (.lst vs)) := fun b o q => by rw [upd_ne (ne_of_none q hM)]; exact q
    have hsl := h4 (M' := upd M a (.lst vs)) (H' := H) em (fun b hb => rfl) (.sh (v := .ref a) (.lst (SqL.of upd_same) (r.mono em)))
    have hset : σ.set i (some (.ref a)) = σ := by
      obtain ⟨hl, he⟩ := List.getElem?_eq_some_iff.mp h1
      rw [← he, List.set_getElem_self]
    rw [hset] at hsl
    refine ⟨_, _, ⟨S.g.hh, fun b o q => em b o (S.g.nn b o q), fun b o q => ?_, fun b q => ?_⟩, S.lo.trans em, fun b hb => ?_, ?_, hsl⟩
    · by_cases hb : b = a
      · subst hb; rw [upd_same] at q; rw [← q]; exact ha
      · rw [upd_ne hb] at q; exact S.g.nh b o q
    · by_cases hb : b = a
      · subst hb; exact .inr hB
      · rw [upd_ne hb] at q; exact S.g.nw b q
    · have hb' : b ∈ f1 ++ f2 := by simpa using hb
      have hbf : b ∈ fs := by
        rw [h2]; simp only [List.mem_append] at hb' ⊢; rcases hb' with h | h <;> simp [h]
      exact ⟨by rw [upd_ne (hne b hb')]; exact (S.fr b hbf).1, (S.fr b hbf).2⟩
    · exact nodup_mid (by rw [← h2]; exact S.nd) .nil fun a ha => by cases ha
end

/-! ### what follows a statement -/
def PostF (K : PySem.W.Frag) (C : Cn) (B : Bs) (D : Ends) (r : Flow) : Prop := match r with
  | .next e => ∀ M H σ fs, SR K B M H σ e fs → D.nx σ H
  | .brk e => ∀ M H σ fs, SR K B M H σ e fs → D.bk σ H
  | .cont e => ∀ M H σ fs, SR K B M H σ e fs → D.ct σ H
  | .ret x e => ∀ M N H v σ fs, SR K B M H σ e fs → Sub M N → (∀ a ∈ fs, ∃ o, N a = some o ∧ OwnO o) → Gr B.m B.h N H → RV K N v x → D.rt v H
  | .exc q e => ∃ w, C.W = some w ∧ ∀ cls d M H σ fs, SR K B M H σ e fs → C.XR H cls d q → w cls d σ H
  | .bad => False
def EvS (K : PySem.W.Frag) (C : Cn) (t : TS) (m : ST) : Prop := ∀ B M H σ env fs, SR K B M H σ env fs → ∀ D, PostF K C B D (m env) → t D σ H
structure SSt (X : Cx) (C : Cn) (st : Stmt) (t : TS) (m : ST) : Prop where
  ps : PS X st t
  ev : EvS X.K C t m
structure SSs (X : Cx) (C : Cn) (st : List Stmt) (t : TS) (m : ST) : Prop where
  ps : PSs X st t
  ev : EvS X.K C t m
section
variable {K : PySem.W.Frag} {C : Cn} {B : Bs} {M H : Hp} {σ : L2.St} {env : Env} {fs : List Addr} {D : Ends}
/-- an expression at a statement, over all that stands -/
theorem post_full {α : Type} (S : SR K B M H σ env fs) {r : Res α} {f : α → Flow} {P : α → Hp → Hp → Prop} (h : PostF K C B D (r.flow env f))
    (k : ∀ x N' H', r = .ok x → Gr (full M H fs) H N' H' → SR K B (part N' fs) H' σ env fs → PostF K C B D (f x) → P x N' H') : PostR C σ (full M H fs) H r P := by
  cases r with
  | ok x => exact fun N' H' g => k x N' H' rfl g (S.behind g) h
  | exc q =>
    obtain ⟨w, h1, h2⟩ := h
    exact ⟨w, h1, fun cls d N' H' g hx => h2 cls d _ H' σ fs (S.behind g) hx⟩
  | bad => exact h
theorem post_hid {α : Type} (S : SR K B M H σ env fs) {r : Res α} {f : α → Flow} {P : α → Hp → Hp → Prop} (h : PostF K C B D (r.flow env f))
    (k : ∀ x M' H', r = .ok x → Gr M H M' H' → SR K B M' H' σ env fs → PostF K C B D (f x) → P x M' H') : PostR C σ M H r P := by
  cases r with
  | ok x => exact fun M' H' g => k x M' H' rfl g (S.behindH g) h
  | exc q =>
    obtain ⟨w, h1, h2⟩ := h
    exact ⟨w, h1, fun cls d N' H' g hx => h2 cls d _ H' σ fs (S.behindH g) hx⟩
  | bad => exact h
theorem PostF.ite {c : Prop} [Decidable c] {a : Flow} (h : PostF K C B D (if c then a else .bad)) : c ∧ PostF K C B D a := by
  split at h
  · rename_i hc; exact ⟨hc, h⟩
  · exact h.elim
theorem PostF.bind {r : Flow} {f : Env → Flow} (h : PostF K C B D (r.bind f)) (k : ∀ e, PostF K C B D (f e) → ∀ M H σ fs, SR K B M H σ e fs → D.nx σ H) : PostF K C B D r := by
  cases r with
  | next e => exact k e h
  | _ => exact h
theorem es_next : EvS K C tNext sNext := fun B M H σ env fs S D h => h M H σ fs S
theorem es_break : EvS K C tBreak sBreak := fun B M H σ env fs S D h => h M H σ fs S
theorem es_cont : EvS K C tCont sCont := fun B M H σ env fs S D h => h M H σ fs S
theorem es_seq {t u : TS} {m n : ST} (h1 : EvS K C t m) (h2 : EvS K C u n) : EvS K C (tSeq t u) (sSeq m n) := fun B M H σ env fs S D h => by
  refine h1 B M H σ env fs S { D with nx := u D } ?_
  cases hm : m env with
  | next e =>
    intro M' H' σ' fs' S'
    refine h2 B M' H' σ' e fs' S' D ?_
    have : PostF K C B D ((m env).bind n) := h
    rw [hm] at this
    exact this
  | brk e => have : PostF K C B D ((m env).bind n) := h; rw [hm] at this; exact this
  | cont e => have : PostF K C B D ((m env).bind n) := h; rw [hm] at this; exact this
  | ret e => have : PostF K C B D ((m env).bind n) := h; rw [hm] at this; exact this
  | exc q e => have : PostF K C B D ((m env).bind n) := h; rw [hm] at this; exact this
  | bad => have : PostF K C B D ((m env).bind n) := h; rw [hm] at this; exact this
/-- ahead of a statement: the slot's list stays from here on -/
theorem es_freeze {t : TS} {m : ST} {i : Nat} (h1 : EvS K C t m) : EvS K C t (sSeq (sFreeze i) m) := fun B M H σ env fs S D h => by
  have h : PostF K C B D ((sFreeze i env).bind m) := h
  unfold sFreeze at h
  split at h
  · rename_i xs hx
    obtain ⟨M', fs', S'⟩ := S.freeze hx
    exact h1 B M' H σ _ fs' S' D h
  · exact h.elim
theorem es_forget {t : TS} {m : ST} {is : List Nat} (h1 : EvS K C t m) : EvS K C t (sSeq (sForget is) m) := fun B M H σ env fs S D h => by
  obtain ⟨fs', S'⟩ := SR.forgets (is := is) S
  exact h1 B M H σ _ fs' S' D h
/-- behind a statement -/
theorem es_then {t : TS} {m : ST} {is : List Nat} (h1 : EvS K C t m) : EvS K C t (sSeq m (sForget is)) := fun B M H σ env fs S D h => by
  refine h1 B M H σ env fs S D (PostF.bind h fun e he M' H' σ' fs' S' => ?_)
  obtain ⟨fs2, S2⟩ := SR.forgets (is := is) S'
  exact he M' H' σ' fs2 S2
theorem es_set {te : TE} {m : EX} {i : Nat} (ha : EvE K C te m) : EvS K C (tAsg te (gName i)) (sSet i m) := fun B M H σ env fs S D h => by
  refine ha M H σ (hide env) S.g.nh S.sl.hid _ (post_hid S h fun x M' H' _ g S' hx v rv => ?_)
  obtain ⟨hi, hx⟩ := PostF.ite hx
  obtain ⟨fs', S2⟩ := S'.putV (i := i) rv
  exact hx M' H' _ fs' S2
theorem es_setN {te : TE} {m : EX} {i : Nat} (ha : EvE K C te m) : EvS K C (tAsg te (gName i)) (sSetN i m) := fun B M H σ env fs S D h => by
  refine ha _ H σ env (full_sub S) S.sv _ (post_full S h fun x N' H' _ g S' hx v rv => ?_)
  obtain ⟨⟨hi, hn⟩, hx⟩ := PostF.ite hx
  obtain ⟨fs', S2⟩ := S'.putV (i := i) (RV.strip (S.kindsN g) x rv hn)
  exact hx _ H' _ fs' S2
theorem es_put {te : TE} {m : EX} {g : TG} {put : Put} {is : List Nat} (hp : EvP K g put is) (hnx : ∀ x env, NX (put x env)) (ha : EvE K C te m) : EvS K C (tAsg te g) (sPut put m) := fun B M H σ env fs S D h => by
  refine ha M H σ (hide env) S.g.nh S.sl.hid _ (post_hid S h fun x M' H' _ g S' hx v rv => ?_)
  cases hq : put x env with
  | bad => rw [hq] at hx; exact hx.elim
  | exc q => exact absurd hq (hnx x env q)
  | ok e =>
    rw [hq] at hx
    refine hp M' H' σ env v x e S'.g.nh rv hq _ fun l hl he => ?_
    obtain ⟨fs', S2⟩ := S'.sets (l := l) fun t ht => (hl t ht).2
    rw [← he] at S2
    exact hx M' H' _ fs' S2
theorem es_own {te : TE} {m : EX} {i : Nat} (ha : EvF K C te m) : EvS K C (tAsg te (gName i)) (sOwn i m) := fun B M H σ env fs S D h => by
  refine ha M H σ (hide env) S.g.nh S.sl.hid _ (post_hid S h fun x M' H' _ g S' hx => ?_)
  cases x with
  | lst xs =>
    obtain ⟨hi, hx⟩ := PostF.ite hx
    refine ⟨xs, rfl, fun p vs hp rvs => ?_⟩
    obtain ⟨fs', S2⟩ := S'.own hi hp rvs
    exact hx M' _ _ fs' S2
  | _ => exact hx.elim
theorem es_ownN {te : TE} {m : EX} {i : Nat} (ha : EvF K C te m) : EvS K C (tAsg te (gName i)) (sOwnN i m) := fun B M H σ env fs S D h => by
  refine ha _ H σ env (full_sub S) S.sv _ (post_full S h fun x N' H' _ g S' hx => ?_)
  cases x with
  | lst xs =>
    obtain ⟨⟨hi, hn⟩, hx⟩ := PostF.ite hx
    refine ⟨xs, rfl, fun p vs hp rvs => ?_⟩
    obtain ⟨fs', S2⟩ := S'.own hi hp (RVs.strip (S.kindsN g) xs rvs hn)
    exact hx _ _ _ fs' S2
  | _ => exact hx.elim
theorem es_drop {te : TE} {m : EX} (ha : EvE K C te m) : EvS K C (tDrop te) (sDrop m) := fun B M H σ env fs S D h => by
  refine ha _ H σ env (full_sub S) S.sv _ (post_full S h fun x N' H' _ g S' hx v rv => ?_)
  exact hx _ H' σ fs S'
theorem es_append {te : TE} {m : EX} {i : Nat} (ha : EvE K C te m) : EvS K C (tDrop (tBM K "list" rAppend (tVar i) (tCons te tNil))) (sAppend i m) := fun B M H σ env fs S D h => by
  unfold sAppend at h
  split at h
  · rename_i xs hx
    obtain ⟨a, vs, h1, h2, h3, _⟩ := S.write hx
    refine ⟨.ref a, h1, .inl ⟨rfl, vs, SqL.of h2⟩, ?_⟩
    refine ha M H σ (hide env) S.g.nh S.sl.hid _ (post_hid S h fun x M' H' _ g S' hq v rv => ?_)
    obtain ⟨hl, hq⟩ := PostF.ite hq
    obtain ⟨a', vs', k1, k2, k3, k4⟩ := S'.write hx
    rw [h1] at k1
    cases k1
    refine ⟨a, vs', v, rfl, rfl, k2, by rw [line_eq, k3.length]; exact hl, ?_⟩
    exact hq M' _ σ fs (k4 (k3.append (.cons rv .nil)))
  · exact h.elim
theorem es_appendN {te : TE} {m : EX} {i : Nat} (ha : EvE K C te m) : EvS K C (tDrop (tBM K "list" rAppend (tVar i) (tCons te tNil))) (sAppendN i m) := fun B M H σ env fs S D h => by
  unfold sAppendN at h
  split at h
  · rename_i xs hx
    obtain ⟨a, vs, h1, h2, h3, _⟩ := S.write hx
    refine ⟨.ref a, h1, .inl ⟨rfl, vs, SqL.of h2⟩, ?_⟩
    refine ha _ H σ env (full_sub S) S.sv _ (post_full S h fun x N' H' _ g S' hq v rv => ?_)
    obtain ⟨⟨hl, hn⟩, hq⟩ := PostF.ite hq
    obtain ⟨a', vs', k1, k2, k3, k4⟩ := S'.write hx
    rw [h1] at k1
    cases k1
    refine ⟨a, vs', v, rfl, rfl, k2, by rw [line_eq, k3.length]; exact hl, ?_⟩
    exact hq _ _ σ fs (k4 (k3.append (.cons (RV.strip (S.kindsN g) x rv hn) .nil)))
  · exact h.elim
theorem RVs.set {N : Hp} {v : V} {x : Val} (h : RV K N v x) : ∀ {vs : List V} {xs : List Val} {j : Nat}, RVs K N vs xs → RVs K N (vs.set j v) (xs.set j x)
  | _, _, _, .nil => .nil
  | _, _, 0, .cons _ r => .cons h r
  | _, _, _ + 1, .cons h1 r => .cons h1 (RVs.set h r)
theorem ixN_eq (n : Nat) (k : Int) : ixN n k = ixNat n k := rfl
theorem item_put {ti : TE} {b : EX} {i : Nat} {v : V} {x : Val} {xs : List Val} (hx : env[i]? = some (.oL xs)) (hb : EvE K C ti b) (S : SR K B M H σ env fs) (r : RV K M v x) (h : PostF K C B D ((b env).flow env fun k => itemPut i env x k)) : gSub (tVar i) ti rSetL v σ H D.nx := by
  obtain ⟨a, vs, h1, h2, h3, _⟩ := S.write hx
  refine ⟨.ref a, h1, ?_⟩
  refine hb _ H σ env (full_sub S) S.sv _ (post_full S h fun k N' H' _ g S' hk w rw' => ?_)
  unfold itemPut at hk
  rw [hx] at hk
  cases k with
  | int k' =>
    have hk : PostF K C B D (match ixNat xs.length k' with
      | some j => .next (env.set i (.oL (xs.set j x)))
      | none => .bad) := hk
    cases hj : ixNat xs.length k' with
    | none => rw [hj] at hk; exact hk.elim
    | some j =>
      rw [hj] at hk
      obtain ⟨a', vs', k1, k2, k3, k4⟩ := S'.write hx
      rw [h1] at k1
      cases k1
      cases rw'
      refine ⟨a, vs', k', j, rfl, rfl, k2, by rw [ixN_eq, k3.length]; exact hj, ?_⟩
      have e1 : Sub M (part N' fs) := fun b o q => by
        unfold part
        rw [if_neg fun h => by rw [(S.fr b h).1] at q; cases q]
        exact g.nn b o (sub_full S b o q)
      exact hk _ _ σ fs (k4 (RVs.set (r.mono e1) k3))
  | _ => exact hk.elim
theorem es_item {te ti : TE} {m b : EX} {i : Nat} (ha : EvE K C te m) (hb : EvE K C ti b) : EvS K C (tAsg te (gSub (tVar i) ti rSetL)) (sOn i (sItem i b m)) := fun B M H σ env fs S D h => by
  unfold sOn at h
  split at h
  · rename_i xs hx
    refine ha M H σ (hide env) S.g.nh S.sl.hid _ (post_hid S h fun x M' H' _ g S' hq v rv => ?_)
    exact item_put hx hb S' rv hq
  · exact h.elim
theorem es_itemN {te ti : TE} {m b : EX} {i : Nat} (ha : EvE K C te m) (hb : EvE K C ti b) : EvS K C (tAsg te (gSub (tVar i) ti rSetL)) (sOn i (sItemN i b m)) := fun B M H σ env fs S D h => by
  unfold sOn at h
  split at h
  · rename_i xs hx
    refine ha _ H σ env (full_sub S) S.sv _ (post_full S h fun x N' H' _ g S' hq v rv => ?_)
    obtain ⟨hn, hq⟩ := PostF.ite hq
    exact item_put hx hb S' (RV.strip (S.kindsN g) x rv hn) hq
  · exact h.elim
theorem es_aug {te : TE} {m : EX} {i : Nat} {r : R2} {f : Val → Val → Res Val} (hr : OpS K r f) (n : ∀ x y, NX (f x y)) (ha : EvE K C te m) : EvS K C (tAug i te r) (sAug f i m) := fun B M H σ env fs S D h => by
  unfold sAug at h
  split at h
  · rename_i x hx
    obtain ⟨v, h1, h2⟩ := S.sv.sh_at hx
    refine ⟨v, h1, ?_⟩
    refine ha _ H σ env (full_sub S) S.sv _ (post_full S h fun y N' H' _ g S' hq w rw' => ?_)
    cases hz : f x y with
    | bad => rw [hz] at hq; exact hq.elim
    | exc q => exact absurd hz (n x y q)
    | ok z =>
      rw [hz] at hq
      refine hr N' H' g.nh v w x y (h2.mono g.nn) rw' _ ⟨z, hz, fun N2 H2 g2 u ru => ?_⟩
      obtain ⟨hn, hq⟩ := PostF.ite hq
      have g3 := g.trans g2
      obtain ⟨fs', S2⟩ := (S.behind g3).putV (i := i) (RV.strip (S.kindsN g3) z ru hn)
      exact hq _ H2 _ fs' S2
  · exact h.elim
theorem es_if {tt : TT} {mt : EB} {t u : TS} {m n : ST} (hc : EvB K C tt mt) (h1 : EvS K C t m) (h2 : EvS K C u n) : EvS K C (tIfS tt t u) (sIf mt m n) := fun B M H σ env fs S D h => by
  refine hc _ H σ env (full_sub S) S.sv _ (post_full S h fun b N' H' _ g S' hq => ?_)
  cases b with
  | true => exact h1 B _ H' σ env fs S' D hq
  | false => exact h2 B _ H' σ env fs S' D hq
theorem es_ret {te : TE} {m : EX} (ha : EvE K C te m) : EvS K C (tRet te) (sRet m) := fun B M H σ env fs S D h => by
  refine ha _ H σ env (full_sub S) S.sv _ (post_full S h fun x N' H' _ g S' hq v rv => ?_)
  refine hq (part N' fs) N' H' v σ fs S' (fun a o q => ?_) (S.kindsN g) ((full_gr S).trans g) rv
  unfold part at q
  split at q
  · cases q
  · exact q
theorem es_retN : EvS K C tRetN sRetN := fun B M H σ env fs S D h => h M (full M H fs) H .non σ fs S (sub_full S) (S.kindsN (Gr.refl (full_sub S))) (full_gr S) .non
theorem es_while {tt : TT} {mt : EB} {t : TS} {m : ST} {n : Nat} (hc : EvB K C tt mt) (h1 : EvS K C t m) : EvS K C (tWhile tt t) (sWhile n mt m) := fun B M H σ env fs S D h => by
  refine ⟨fun k σ H => ∃ M env fs, SR K B M H σ env fs ∧ PostF K C B D (whileL mt m k env), ⟨n, M, env, fs, S, h⟩, ?_⟩
  rintro k σ H ⟨M, env, fs, S, h⟩
  cases k with
  | zero => exact h.elim
  | succ k =>
    refine hc _ H σ env (full_sub S) S.sv _ (post_full S h fun b N' H' _ g S' hq => ?_)
    cases b with
    | false => exact hq _ H' σ fs S'
    | true =>
      refine ⟨fun σ' H' => ∃ M env fs, SR K B M H' σ' env fs ∧ PostF K C B D (whileL mt m k env), fun σ' H' w => ⟨k, Nat.lt_succ_self _, w⟩, ?_⟩
      refine h1 B _ H' σ env fs S' _ ?_
      have hq' : PostF K C B D (match m env with
        | .next e' => whileL mt m k e'
        | .cont e' => whileL mt m k e'
        | .brk e' => .next e'
        | .ret v e' => .ret v e'
        | .exc q e' => .exc q e'
        | .bad => .bad) := hq
      cases hm : m env with
      | next e => rw [hm] at hq'; exact fun M' H' σ' fs' S' => ⟨M', e, fs', S', hq'⟩
      | cont e => rw [hm] at hq'; exact fun M' H' σ' fs' S' => ⟨M', e, fs', S', hq'⟩
      | brk e => rw [hm] at hq'; exact hq'
      | ret v => rw [hm] at hq'; exact hq'
      | exc q e => rw [hm] at hq'; exact hq'
      | bad => rw [hm] at hq'; exact hq'
theorem es_for {wi : TI} {it : EI} {g : TG} {put : Put} {is : List Nat} {t : TS} {m : ST} (hi : EvI K C wi it) (hp : EvP K g put is) (h1 : EvS K C t m) : EvS K C (tFor wi g t) (sFor it put m) := fun B M H σ env fs S D h => by
  refine hi M H σ (hide env) S.g.nh S.sl.hid _ (post_hid S h fun xs M1 H1 _ g1 S1 hq J hJ => ?_)
  obtain ⟨G, Y, w, hG, hY⟩ := hJ
  refine for_it w (fun i σ H => ∃ M env fs, Sub M1 M ∧ SR K B M H σ env fs ∧ PostF K C B D (forL put m (xs.drop i) env)) ⟨M1, env, fs, Same.refl _, S1, by rw [List.drop_zero]; exact hq⟩ ?_ ?_ ?_
  · rintro i σ H hi ⟨M, env, fs, e, S, _⟩
    exact hG H fun a o q => S.g.nh a o (e a o q)
  · rintro i v σ Hi Hx hi ⟨M, env, fs, e, S, hf⟩ y
    obtain ⟨Nx, x, gx, hx, rx⟩ := hY i Hi v Hx hi (fun a o q => S.g.nh a o (e a o q)) y
    rw [List.drop_eq_getElem_cons hi] at hf
    have hxe : xs[i] = x := by rw [List.getElem?_eq_getElem hi] at hx; exact Option.some.inj hx
    rw [hxe] at hf
    -- the frozen part: with what the item made
    let Nu : Hp := fun a => if Nx a = none then M a else Nx a
    have gu : Gr M Hi Nu Hx := by
      refine ⟨gx.hh, fun a o q => ?_, fun a o q => ?_, fun a q => ?_⟩
      · show (if Nx a = none then M a else Nx a) = some o
        by_cases hz : Nx a = none
        · rw [if_pos hz]; exact q
        · rw [if_neg hz]
          cases hq : Nx a with
          | none => exact absurd hq hz
          | some o' =>
            have h1 := gx.nh a o' hq
            have h2 := gx.hh a o (S.g.nh a o q)
            rw [h1] at h2
            exact h2
      · have q' : (if Nx a = none then M a else Nx a) = some o := q
        by_cases hz : Nx a = none
        · rw [if_pos hz] at q'; exact gx.hh a o (S.g.nh a o q')
        · rw [if_neg hz] at q'; exact gx.nh a o q'
      · have q' : (if Nx a = none then M a else Nx a) ≠ none := q
        by_cases hz : Nx a = none
        · rw [if_pos hz] at q'; exact .inl q'
        · rcases gx.nw a hz with h1 | h1
          · cases hq : M1 a with
            | none => exact absurd hq h1
            | some o => exact .inl (by rw [e a o hq]; simp)
          · exact .inr h1
    have u1 : Sub Nx Nu := fun a o q => by show (if Nx a = none then M a else Nx a) = some o; rw [if_neg (by rw [q]; simp)]; exact q
    have S2 := S.behindH gu
    have hf' : PostF K C B D ((put x env).nx.flow env fun e => match m e with
        | .next e' => forL put m (xs.drop (i + 1)) e'
        | .cont e' => forL put m (xs.drop (i + 1)) e'
        | .brk e' => .next e'
        | .ret v e' => .ret v e'
        | .exc q e' => .exc q e'
        | .bad => .bad) := hf
    cases hput : put x env with
    | bad => rw [hput] at hf'; exact hf'.elim
    | exc q => rw [hput] at hf'; exact hf'.elim
    | ok e1 =>
      rw [hput] at hf'
      refine hp Nu Hx σ env v x e1 S2.g.nh (rx.mono u1) hput _ fun l hl he => ?_
      obtain ⟨fs', S3⟩ := S2.sets (l := l) fun t ht => (hl t ht).2
      rw [← he] at S3
      have eu : Sub M1 Nu := e.trans gu.nn
      refine h1 { B with l := M1 } Nu Hx _ e1 fs' (S3.at_low eu) _ ?_
      have hf2 : PostF K C B D (match m e1 with
        | .next e' => forL put m (xs.drop (i + 1)) e'
        | .cont e' => forL put m (xs.drop (i + 1)) e'
        | .brk e' => .next e'
        | .ret v e' => .ret v e'
        | .exc q e' => .exc q e'
        | .bad => .bad) := hf'
      cases hm : m e1 with
      | next e => rw [hm] at hf2; exact fun M' H' σ' fs' S' => ⟨M', e, fs', S'.lo, S'.of_low S1.lo, hf2⟩
      | cont e => rw [hm] at hf2; exact fun M' H' σ' fs' S' => ⟨M', e, fs', S'.lo, S'.of_low S1.lo, hf2⟩
      | brk e => rw [hm] at hf2; exact fun M' H' σ' fs' S' => hf2 M' H' σ' fs' (S'.of_low S1.lo)
      | ret v ev => rw [hm] at hf2; exact fun M2 N2 H2 v2 σ2 fs2 S2 sb hk g rv => hf2 M2 N2 H2 v2 σ2 fs2 (S2.of_low S1.lo) sb hk g rv
      | exc q e =>
        rw [hm] at hf2
        obtain ⟨w, q1, q2⟩ := hf2
        exact ⟨w, q1, fun cls d M H σ fs S' hx => q2 cls d M H σ fs (S'.of_low S1.lo) hx⟩
      | bad => rw [hm] at hf2; exact hf2.elim
  · rintro σ H ⟨M, env, fs, e, S, hf⟩
    rw [List.drop_length] at hf
    exact hf M H σ fs S
end
end Vm

/-! The value machine over HandS: dicts that a slot owns. -/
namespace Vm
open PySem L2 PyProof.Rows
/-- a dict that is made -/
def EvFD (K : PySem.W.Frag) (C : Cn) (te : TE) (m : EX) : Prop := ∀ N H σ env, Sub N H → SV K N σ env → ∀ Q : VK, PostR C σ N H (m env) (fun x N' H' => ∃ xs, x = .dct xs ∧ ∀ p vs, H' p = none → RKs K N' vs xs → Q (.ref p) (upd H' p (.dK vs))) → te σ H Q
section
variable {K : PySem.W.Frag} {C : Cn} {B : Bs} {M H : Hp} {σ : L2.St} {env : Env} {fs : List Addr} {D : Ends}
theorem efd_nil : EvFD K C tDNewK (eC (.dct [])) := fun N H σ env e s Q h p hp => by
  obtain ⟨xs, e1, k⟩ := h N H (Gr.refl e)
  cases e1
  exact k p [] hp .nil
theorem SR.ownG (S : SR K B M H σ env fs) {i : Nat} (hi : i < env.length) {p : Addr} {o : HO} {e : Slot} (hp : H p = none) (r : ∀ H', H' p = some o → SlR1 K B.me M H' (some (.ref p)) e [p]) : ∃ fs', SR K B M (upd H p o) (σ.set i (some (.ref p))) (env.set i e) fs' := by
  obtain ⟨s0, f1, f, f2, h1, h2, h3, h4⟩ := S.sl.at (List.getElem?_eq_getElem hi)
  have hne : ∀ a, H a ≠ none → a ≠ p := fun a h z => by subst z; exact h hp
  have hM : M p = none := by
    cases hq : M p with
    | none => rfl
    | some o => have := S.g.nh p o hq; rw [hp] at this; cases this
  have hB : B.h p = none := S.g.hh.free hp
  refine ⟨f1 ++ ([p] ++ f2), ⟨S.g.hh.trans fun a o q => by rw [upd_ne (hne a (by rw [q]; simp))]; exact q, S.g.nn, fun a o q => ?_, S.g.nw⟩, S.lo, fun a ha => ?_, ?_, h4 (Same.refl _) (fun a ha => upd_ne (hne a (S.sl.known a ?_))) (r _ upd_same)⟩
  · have := S.g.nh a o q
    rw [upd_ne (hne a (by rw [this]; simp))]
    exact this
  · simp only [List.mem_append, List.mem_singleton] at ha
    rcases ha with ha | ha | ha
    · exact S.fr a (by rw [h2]; simp [ha])
    · subst ha; exact ⟨hM, hB⟩
    · exact S.fr a (by rw [h2]; simp [ha])
  · refine nodup_mid (by rw [← h2]; exact S.nd) (List.nodup_cons.mpr ⟨by simp, .nil⟩) fun a ha hb => ?_
    rw [List.mem_singleton] at ha
    subst ha
    exact S.sl.known a (by rw [h2]; simp only [List.mem_append] at hb ⊢; rcases hb with h | h <;> simp [h]) hp
  · rw [h2]
    simp only [List.mem_append] at ha ⊢
    rcases ha with h | h <;> simp [h]
/-- the slot's own dict is written -/
theorem SR.writeD (S : SR K B M H σ env fs) {i : Nat} {xs : List (Key × Val)} (hi : env[i]? = some (.oD xs)) : ∃ a vs, σ[i]? = some (some (.ref a)) ∧ H a = some (.dK vs) ∧ RKs K M vs xs ∧
    ∀ {ws : List (L2.Key × V)} {ys : List (Key × Val)}, RKs K M ws ys → SR K B M (upd H a (.dK ws)) σ (env.set i (.oD ys)) fs := by
  obtain ⟨s0, f1, f, f2, h1, h2, h3, h4⟩ := S.sl.at hi
  cases h3 with
  | @oD a vs _ ha r =>
    refine ⟨a, vs, h1, ha, r, fun {ws ys} r' => ?_⟩
    have hfs : a ∈ fs := by rw [h2]; simp
    have hne : ∀ b ∈ f1 ++ f2, b ≠ a := fun b hb z => by
      subst z
      have hn := S.nd
      rw [h2, List.nodup_append] at hn
      obtain ⟨_, n2, n3⟩ := hn
      rcases List.mem_append.mp hb with hb | hb
      · exact n3 b hb b (by simp) rfl
      · rw [List.nodup_append] at n2
        exact n2.2.2 b (by simp) b hb rfl
    have hsl := h4 (M' := M) (H' := upd H a (.dK ws)) (Same.refl _) (fun b hb => upd_ne (hne b hb)) (.oD upd_same r')
    have hset : σ.set i (some (.ref a)) = σ := by
      obtain ⟨hl, he⟩ := List.getElem?_eq_some_iff.mp h1
      rw [← he, List.set_getElem_self]
    rw [hset] at hsl
    have hB := (S.fr a hfs).2
    have hM := (S.fr a hfs).1
    refine ⟨⟨fun b o q => ?_, S.g.nn, fun b o q => ?_, S.g.nw⟩, S.lo, S.fr, S.nd, by rw [h2]; exact hsl⟩
    · rw [upd_ne (ne_of_none q hB)]
      exact S.g.hh b o q
    · rw [upd_ne (ne_of_none q hM)]
      exact S.g.nh b o q
/-- the slot's own dict stays from here on -/
theorem SR.freezeD (S : SR K B M H σ env fs) {i : Nat} {xs : List (Key × Val)} (hi : env[i]? = some (.oD xs)) : ∃ M' fs', SR K B M' H σ (env.set i (.sh (.dct xs))) fs' := by
  obtain ⟨s0, f1, f, f2, h1, h2, h3, h4⟩ := S.sl.at hi
  cases h3 with
  | @oD a vs _ ha r =>
    have hfs : a ∈ fs := by rw [h2]; simp
    have hne : ∀ b ∈ f1 ++ f2, b ≠ a := fun b hb z => by
      subst z
      have hn := S.nd
      rw [h2, List.nodup_append] at hn
      obtain ⟨_, n2, n3⟩ := hn
      rcases List.mem_append.mp hb with hb | hb
      · exact n3 b hb b (by simp) rfl
      · rw [List.nodup_append] at n2
        exact n2.2.2 b (by simp) b hb rfl
    have hB := (S.fr a hfs).2
    have hM := (S.fr a hfs).1
    have em : Sub M (upd M a (.dK vs)) := fun b o q => by rw [upd_ne (ne_of_none q hM)]; exact q
    have hsl := h4 (M' := upd M a (.dK vs)) (H' := H) em (fun b hb => rfl) (.sh (v := .ref a) (.dct (.inl upd_same) (RKs.mono em _ r)))
    have hset : σ.set i (some (.ref a)) = σ := by
      obtain ⟨hl, he⟩ := List.getElem?_eq_some_iff.mp h1
      rw [← he, List.set_getElem_self]
    rw [hset] at hsl
    refine ⟨_, _, ⟨S.g.hh, fun b o q => em b o (S.g.nn b o q), fun b o q => ?_, fun b q => ?_⟩, S.lo.trans em, fun b hb => ?_, ?_, hsl⟩
    · by_cases hb : b = a
      · subst hb; rw [upd_same] at q; rw [← q]; exact ha
      · rw [upd_ne hb] at q; exact S.g.nh b o q
    · by_cases hb : b = a
      · subst hb; exact .inr hB
      · rw [upd_ne hb] at q; exact S.g.nw b q
    · have hb' : b ∈ f1 ++ f2 := by simpa using hb
      have hbf : b ∈ fs := by
        rw [h2]; simp only [List.mem_append] at hb' ⊢; rcases hb' with h | h <;> simp [h]
      exact ⟨by rw [upd_ne (hne b hb')]; exact (S.fr b hbf).1, (S.fr b hbf).2⟩
    · exact nodup_mid (by rw [← h2]; exact S.nd) .nil fun a ha => by cases ha
theorem es_freezeD {t : TS} {m : ST} {i : Nat} (h1 : EvS K C t m) : EvS K C t (sSeq (sFreezeD i) m) := fun B M H σ env fs S D h => by
  have h : PostF K C B D ((sFreezeD i env).bind m) := h
  unfold sFreezeD at h
  split at h
  · rename_i xs hx
    obtain ⟨M', fs', S'⟩ := S.freezeD hx
    exact h1 B M' H σ _ fs' S' D h
  · exact h.elim
theorem es_ownD {te : TE} {m : EX} {i : Nat} (ha : EvFD K C te m) : EvS K C (tAsg te (gName i)) (sOwnD i m) := fun B M H σ env fs S D h => by
  refine ha M H σ (hide env) S.g.nh S.sl.hid _ (post_hid S h fun x M' H' _ g S' hx => ?_)
  cases x with
  | dct xs =>
    obtain ⟨hi, hx⟩ := PostF.ite hx
    refine ⟨xs, rfl, fun p vs hp rvs => ?_⟩
    obtain ⟨fs', S2⟩ := S'.ownG (o := .dK vs) (e := .oD xs) hi hp fun H' q => .oD q rvs
    exact hx M' _ _ fs' S2
  | _ => exact hx.elim
theorem item_putD {ti : TE} {b : EX} {i : Nat} {v : V} {x : Val} {xs : List (Key × Val)} (hx : env[i]? = some (.oD xs)) (hb : EvE K C ti b) (S : SR K B M H σ env fs) (r : RV K M v x) (h : PostF K C B D ((b env).flow env fun k => itemPutD i env x k)) :
    tVar i σ H fun x H2 => ti σ H2 fun y H3 => ∃ a H4, x = .ref a ∧ DPut H3 a y v H4 ∧ D.nx σ H4 := by
  obtain ⟨a, vs, h1, h2, h3, _⟩ := S.writeD hx
  refine ⟨.ref a, h1, ?_⟩
  refine hb _ H σ env (full_sub S) S.sv _ (post_full S h fun k N' H' _ g S' hk w rw' => ?_)
  unfold itemPutD at hk
  rw [hx] at hk
  cases hq : keyOfV k with
  | none => rw [hq] at hk; exact hk.elim
  | some q =>
    rw [hq] at hk
    obtain ⟨hl, hk⟩ := PostF.ite (show PostF K C B D (if xs.length < 16777216 then .next (env.set i (.oD (putV xs q x))) else .bad) from hk)
    obtain ⟨a', vs', k1, k2, k3, k4⟩ := S'.writeD hx
    rw [h1] at k1
    cases k1
    have e1 : Sub M (part N' fs) := fun b o q => by
      unfold part
      rw [if_neg fun h => by rw [(S.fr b h).1] at q; cases q]
      exact g.nn b o (sub_full S b o q)
    refine ⟨a, _, rfl, ?_, hk _ _ σ fs (k4 (k3.put (r.mono e1)))⟩
    rw [keyOf_rv rw' hq]
    exact DPut.k k2 (by rw [line_eq, k3.length]; exact hl)
theorem es_putD {te ti : TE} {m b : EX} {i : Nat} (ha : EvE K C te m) (hb : EvE K C ti b) : EvS K C (sDPut (tVar i) ti te) (sOnD i (sPutD i b m)) := fun B M H σ env fs S D h => by
  unfold sOnD at h
  split at h
  · rename_i xs hx
    refine ha M H σ (hide env) S.g.nh S.sl.hid _ (post_hid S h fun x M' H' _ g S' hq v rv => ?_)
    exact item_putD hx hb S' rv hq
  · exact h.elim
theorem es_putDN {te ti : TE} {m b : EX} {i : Nat} (ha : EvE K C te m) (hb : EvE K C ti b) : EvS K C (sDPut (tVar i) ti te) (sOnD i (sPutDN i b m)) := fun B M H σ env fs S D h => by
  unfold sOnD at h
  split at h
  · rename_i xs hx
    refine ha _ H σ env (full_sub S) S.sv _ (post_full S h fun x N' H' _ g S' hq v rv => ?_)
    obtain ⟨hn, hq⟩ := PostF.ite hq
    exact item_putD hx hb S' (RV.strip (S.kindsN g) x rv hn) hq
  · exact h.elim
end
end Vm

/-! The value machine over HandS: more of lists that a slot owns. -/
namespace Vm
open PySem L2 PyProof.Rows
theorem list_extendW (l : Addr) (items : Array Value) (n : Nat) (b : Addr) (items2 : Array Value) (n2 : Nat) (dd2 : Option Addr) (sl2 : Array (Option Value)) (hc0 : ¬(!items.isEmpty && Builtin.List.listTooLong (items.size + items2.size)) = true) (hc1 : items.size ≤ sizeLine) (hs2 : items.size + items2.size ≤ sizeLine + 1) :
    Meets (Builtin.«list.extend» ⟨[.ref l, .ref b], []⟩) (fun _ R s => s.heap.get? l = some { cls := .type "list", dict := none, data := .seq items n, slots := #[] } ∧ s.heap.get? b = some { cls := .type "list", dict := dd2, data := .seq items2 n2, slots := sl2 } ∧ R (.ok (.ret Value.none)) { s with heap := s.heap.update l (Obj.mapSeq fun x => x ++ items2), toks := s.toks }) :=
  .of_wp fun prog w A R s h => by
    obtain ⟨hp, g, d, tk, os⟩ := s; obtain ⟨hl, hb, h⟩ := h; have f1 := AutoSeq1.idx_int; have f2 := AutoSeq1.sub_tuple_tuple; have f3 := AutoSeq1.sub_list_list; have f4 := AutoSeq1.sub_tuple_list; have f5 := AutoSeq1.sub_list_tuple;
    have hz' : (items ++ items2).size ≤ sizeLine + 1 := by rw [Array.size_append]; exact hs2
    wp_walk using (wpAny_updateSeq hl rfl (hz := hc1) (_hz' := hz')), wpAny_loadPart' hl, wpAny_loadPart' hb; exact ⟨_, rfl, h⟩
def rExtendS (K : PySem.W.Frag) : V → List V → Hp → VK → Prop := fun x vs H Q => ∃ l b xs zs, x = .ref l ∧ vs = [.ref b] ∧ H l = some (.lst xs) ∧ SqL K H b zs ∧ xs.length + zs.length ≤ sizeLine ∧ Q .non (upd H l (.lst (xs ++ zs)))
theorem mt_extendS {X : Cx} : MtM X "list.extend" (rExtendS X.K) := by
  intro pins s σ H x vs v us Q I rx rv h
  obtain ⟨l, b, xs, zs, rfl, rfl, hH, hB, hz, q⟩ := h
  cases rx
  obtain ⟨u, rfl, ru⟩ := rv.one
  cases ru
  obtain ⟨z, its, n, r, hl, e⟩ := I.lstM hH
  obtain ⟨its2, r2, p2, z2⟩ := I.list hB
  obtain ⟨⟨cls2, dd2, data2, sl2⟩, ho2, hc2, n2, hd2⟩ := p2.isList
  simp only at hc2 hd2
  subst hc2 hd2
  have hl2 := r2.length
  have hsz : its.toArray.size + its2.toArray.size ≤ sizeLine := by rw [List.size_toArray, List.size_toArray]; omega
  have hlong : ¬ (!its.toArray.isEmpty && Builtin.List.listTooLong (its.toArray.size + its2.toArray.size)) = true := by
    rw [notLongL hsz, Bool.and_false]
    exact Bool.false_ne_true
  refine call_meets PySem.F.slot_list_extend ⟨_, e, rfl⟩ PySem.F.entry_list_extend (PySem.F.args_list_extend_2 _ _)
    (list_extendW l its.toArray n b its2.toArray n2 dd2 sl2 hlong (by rw [List.size_toArray]; omega) (by omega)) ⟨e, ho2, ?_⟩
  refine ⟨.non, _, I.lset (its' := its ++ its2) hH e (by simp) (r.append r2) ?_, rfl, q⟩
  rw [List.length_append]
  omega
section
variable {K : PySem.W.Frag} {C : Cn} {B : Bs} {M H : Hp} {σ : L2.St} {env : Env} {fs : List Addr} {D : Ends}
theorem es_extend {te : TE} {m : EX} {i : Nat} (ha : EvE K C te m) : EvS K C (tDrop (tBM K "list" (rExtendS K) (tVar i) (tCons te tNil))) (sExtend i m) := fun B M H σ env fs S D h => by
  unfold sExtend at h
  split at h
  · rename_i xs hx
    obtain ⟨a, vs, h1, h2, h3, _⟩ := S.write hx
    refine ⟨.ref a, h1, .inl ⟨rfl, vs, SqL.of h2⟩, ?_⟩
    refine ha M H σ (hide env) S.g.nh S.sl.hid _ (post_hid S h fun x M' H' _ g S' hq v rv => ?_)
    cases rv with
    | @lst b ws ys hs r =>
      obtain ⟨hl, hq⟩ := PostF.ite hq
      obtain ⟨a', vs', k1, k2, k3, k4⟩ := S'.write hx
      rw [h1] at k1
      cases k1
      refine ⟨a, b, vs', ws, rfl, rfl, k2, sq_mono S'.g.nh hs, by rw [line_eq, k3.length, r.length]; exact hl, ?_⟩
      exact hq M' _ σ fs (k4 (k3.append r))
    | _ => exact hq.elim
  · exact h.elim
theorem RVs.reverse {N : Hp} {vs : List V} {xs : List Val} (r : RVs K N vs xs) : RVs K N vs.reverse xs.reverse := by
  induction vs generalizing xs with
  | nil => cases r; exact .nil
  | cons v vs ih =>
    cases r with
    | cons h r =>
      rw [List.reverse_cons, List.reverse_cons]
      exact (ih r).append (.cons h .nil)
theorem es_reverse {i : Nat} : EvS K C (tDrop (tBM0 K "list" rReverse (tVar i))) (sReverse i) := fun B M H σ env fs S D h => by
  unfold sReverse at h
  split at h
  · rename_i xs hx
    obtain ⟨a, vs, h1, h2, h3, h4⟩ := S.write hx
    exact ⟨.ref a, h1, .inl ⟨rfl, vs, SqL.of h2⟩, a, vs, rfl, rfl, h2, h M _ σ fs (h4 h3.reverse)⟩
  · exact h.elim
theorem es_clear {i : Nat} : EvS K C (tDrop (tBM0 K "list" rClear (tVar i))) (sClear i) := fun B M H σ env fs S D h => by
  unfold sClear at h
  split at h
  · rename_i xs hx
    obtain ⟨a, vs, h1, h2, h3, h4⟩ := S.write hx
    exact ⟨.ref a, h1, .inl ⟨rfl, vs, SqL.of h2⟩, a, vs, rfl, rfl, h2, h M _ σ fs (h4 .nil)⟩
  · exact h.elim
theorem RVs.dropLast {N : Hp} : ∀ {vs : List V} {xs : List Val}, RVs K N vs xs → RVs K N vs.dropLast xs.dropLast
  | _, _, .nil => .nil
  | _, _, .cons h .nil => .nil
  | _, _, .cons h (.cons h' r) => .cons h (RVs.dropLast (.cons h' r))
theorem es_popDrop {i : Nat} : EvS K C (tDrop (tBM0 K "list" rPop (tVar i))) (sPopDrop i) := fun B M H σ env fs S D h => by
  unfold sPopDrop at h
  split at h
  · rename_i xs hx
    split at h
    · rename_i x hl
      obtain ⟨a, vs, h1, h2, h3, h4⟩ := S.write hx
      obtain ⟨v, hv, rv⟩ := h3.get hl
      rw [← h3.length] at hv
      exact ⟨.ref a, h1, .inl ⟨rfl, vs, SqL.of h2⟩, a, vs, v, rfl, rfl, h2, hv, h M _ σ fs (h4 h3.dropLast)⟩
    · exact h.elim
  · exact h.elim
theorem es_popTo {i j : Nat} : EvS K C (tAsg (tBM0 K "list" rPop (tVar i)) (gName j)) (sPopTo i j) := fun B M H σ env fs S D h => by
  unfold sPopTo at h
  split at h
  · rename_i xs hx
    split at h
    · rename_i x hl
      obtain ⟨⟨hj, hij⟩, h⟩ := PostF.ite h
      obtain ⟨a, vs, h1, h2, h3, h4⟩ := S.write hx
      obtain ⟨v, hv, rv⟩ := h3.get hl
      rw [← h3.length] at hv
      refine ⟨.ref a, h1, .inl ⟨rfl, vs, SqL.of h2⟩, a, vs, v, rfl, rfl, h2, hv, ?_⟩
      obtain ⟨fs', S2⟩ := (h4 h3.dropLast).putV (i := j) rv
      exact h M _ _ fs' S2
    · exact h.elim
  · exact h.elim
end
end Vm

/-! The value machine over HandS: the steps of a text, defs. -/
namespace Vm
open PySem L2 PyProof.Rows

/-! ### truth -/
theorem RV.tru {K : PySem.W.Frag} {N H : Hp} (e : Sub N H) {v : V} {x : Val} {k : Bool} (r : RV K N v x) (h : truth x = .ok k) : TruV K v H k := by
  cases r with
  | non => cases h; rfl
  | bl b => cases h; rfl
  | int i => cases h; rfl
  | str y =>
    simp only [truth] at h
    split at h
    · rename_i hl
      cases h
      refine ⟨len_line hl, ?_⟩
      show (y.length != 0) = ((y.length : Int) != 0)
      rw [Bool.eq_iff_iff]
      simp
    · cases h
  | tup h1 r =>
    cases h
    refine .inr (.inl ⟨_, st_mono e h1, ?_⟩)
    cases r <;> rfl
  | lst h1 r =>
    cases h
    refine .inl ⟨_, sq_mono e h1, ?_⟩
    cases r <;> rfl
  | dct _ _ => cases h
  | dcT _ _ => cases h
  | ob _ _ => cases h
theorem nx_truth (x : Val) : NX (truth x) := by
  unfold truth
  split <;> first | exact nx_ok | exact nx_bad | exact nx_ite nx_ok nx_bad
abbrev tTru (K : PySem.W.Frag) (ta : TE) : TT := fun σ H Q => ta σ H fun x H' => ∃ k, TruV K x H' k ∧ Q k H'
theorem eb_truth {K : PySem.W.Frag} {C : Cn} {ta : TE} {ma : EX} (ha : EvE K C ta ma) : EvB K C (tTru K ta) (bTruth ma) := fun N H σ env e s Q h => by
  refine ha N H σ env e s _ (PostR.imp (PostR.bind h) fun x N1 H1 g1 h1 v rv => ?_)
  obtain ⟨k, hk, h2⟩ := h1.val (nx_truth x)
  exact ⟨k, rv.tru g1.nh hk, h2 N1 H1 (Gr.refl g1.nh)⟩

/-- what a body's context gives -/
structure Fr (X : Cx) (C : Cn) : Prop where
  hu : X.A.units + 64 < cLine
  ca : X.calm = true
  le : Lets X C
  ow : PassesOwn (model X.prog X.w) X.A X.env X.xe
theorem Fr.blk {X : Cx} {C : Cn} (F : Fr X C) (s : Shared) (H : Hp) (scope : Scope) (cenv : PySem.Env) (fp : List Addr) : Fr (X.blk s H scope cenv fp) (C0 C) := ⟨F.hu, F.ca, Lets.no, PassesOwn.never⟩

section
variable {X : Cx} {C : Cn} {a b c : Expr} {ta tb tc : TE} {ma mb mc : EX} {pos p : Pos}
/-! ### expressions -/
theorem se_var (i : Nat) {x : Str} (hN : X.N[i]? = some x := by rfl) (hv : Vis X.env.scope x := by first | exact Or.inl rfl | exact Or.inr (Or.inl rfl) | exact Or.inr (Or.inr rfl)) (hd : (x == ("__debug__" : Str)) = false := by decide)
    (hcd : (x == ("__classdict__" : Str)) = false := by decide) : SE X C (.Name x pos) (tVar i) (eVar i) := ⟨pv i hN hv hd hcd, ev_var⟩
theorem se_int {i : Int} {j} : SE X C (.Constant (.int i) j pos) (tC (.int i)) (eC (.int i)) := ⟨pe_int, ev_c fun _ => .int i⟩
theorem se_bl {b : Bool} {j} : SE X C (.Constant (.bool b) j pos) (tC (.bl b)) (eC (.bl b)) := ⟨pe_bl, ev_c fun _ => .bl b⟩
theorem se_non {j} : SE X C (.Constant .none j pos) (tC .non) (eC .non) := ⟨pe_non, ev_c fun _ => .non⟩
theorem se_str {x : Str} {j} : SE X C (.Constant (.str x) j pos) (tC (.str x)) (eC (.str x)) := ⟨pe_str, ev_c fun _ => .str x⟩
/-- an int of the module -/
theorem se_gi {x : Str} {i : Int} (hm : ∃ t, X.mg x = some (.int i t)) (hg : Gl X x := by rfl) (hd : (x == ("__debug__" : Str)) = false := by decide) : SE X C (.Name x pos) (tC (.int i)) (eC (.int i)) := by
  obtain ⟨t, hm⟩ := hm
  exact ⟨pe_glob hg hm ⟨t, rfl⟩ hd, ev_c fun _ => .int i⟩
theorem se_gs {x z : Str} (hm : ∃ t, X.mg x = some (.str z t)) (hg : Gl X x := by rfl) (hd : (x == ("__debug__" : Str)) = false := by decide) : SE X C (.Name x pos) (tC (.str z)) (eC (.str z)) := by
  obtain ⟨t, hm⟩ := hm
  exact ⟨pe_glob hg hm ⟨t, rfl⟩ hd, ev_c fun _ => .str z⟩
/-- an object of the module -/
theorem se_go {x : Str} {q : Addr} {z : Val} (hm : X.mg x = some (.ref q)) (hz : ∀ N, RV X.K N (.ref q) z) (hg : Gl X x := by rfl) (hd : (x == ("__debug__" : Str)) = false := by decide) : SE X C (.Name x pos) (tC (.ref q)) (eC z) :=
  ⟨pe_glob hg hm rfl hd, ev_c hz⟩
theorem se_add (ha : SE X C a ta ma) (hb : SE X C b tb mb) : SE X C (.BinOp a .Add b pos) (tOp (rAddV X.K) ta tb) (e2 vAdd ma mb) := ⟨pe_op op_addV ha.pe hb.pe, ev_op ops_add nx_add ha.ev hb.ev⟩
theorem se_sub (ha : SE X C a ta ma) (hb : SE X C b tb mb) : SE X C (.BinOp a .Sub b pos) (tOp (rI0 fun i j => .int (i - j)) ta tb) (e2 vSub ma mb) := ⟨pe_op op_sub ha.pe hb.pe, ev_op ops_sub nx_sub ha.ev hb.ev⟩
theorem se_mul (ha : SE X C a ta ma) (hb : SE X C b tb mb) : SE X C (.BinOp a .Mult b pos) (tOp rMulV ta tb) (e2 vMul ma mb) := ⟨pe_op op_mul ha.pe hb.pe, ev_op ops_mul nx_mul ha.ev hb.ev⟩
theorem se_div (ha : SE X C a ta ma) (hb : SE X C b tb mb) : SE X C (.BinOp a .FloorDiv b pos) (tOp rDivV ta tb) (e2 vDiv ma mb) := ⟨pe_op op_fdivW ha.pe hb.pe, ev_op ops_div nx_div ha.ev hb.ev⟩
theorem se_mod (ha : SE X C a ta ma) (hb : SE X C b tb mb) : SE X C (.BinOp a .Mod b pos) (tOp rModV ta tb) (e2 vMod ma mb) := ⟨pe_op op_mod ha.pe hb.pe, ev_op ops_mod nx_mod ha.ev hb.ev⟩
theorem se_pow (ha : SE X C a ta ma) (hb : SE X C b tb mb) : SE X C (.BinOp a .Pow b pos) (tOp rPowV ta tb) (e2 vPow ma mb) := ⟨pe_op op_pow ha.pe hb.pe, ev_op ops_pow nx_pow ha.ev hb.ev⟩
theorem se_neg (ha : SE X C a ta ma) : SE X C (.UnaryOp .USub a pos) (tUn (rU fun i => .int (-i)) ta) (e1 vNeg ma) := ⟨pe_un un_neg ha.pe, ev_un uns_neg nx_neg ha.ev⟩
theorem se_not (ha : SE X C a ta ma) : SE X C (.UnaryOp .Not a pos) (tNotV ta) (eNot ma) := ⟨pe_not ha.pe, ev_not ha.ev⟩
/-- a comparison, as it stands in a Compare -/
structure CmpS (X : Cx) (op : CmpOp) (r : R2) (f : Val → Val → Res Val) : Prop where
  o : OpR X (compareOp op) r
  s : OpS X.K r f
  n : ∀ x y, NX (f x y)
theorem c_lt : CmpS X .Lt (rI0 fun i j => .bl (decide (i < j))) vLt := ⟨op_lt, ops_lt, nx_lt⟩
theorem c_le : CmpS X .LtE (rI0 fun i j => .bl (decide (i ≤ j))) vLe := ⟨op_le, ops_le, nx_le⟩
theorem c_gt : CmpS X .Gt (rI0 fun i j => .bl (decide (j < i))) vGt := ⟨op_gt, ops_gt, nx_gt⟩
theorem c_ge : CmpS X .GtE (rI0 fun i j => .bl (decide (j ≤ i))) vGe := ⟨op_ge, ops_ge, nx_ge⟩
theorem c_eq (F : Fr X C) : CmpS X .Eq (rEqV X.K) vEq := ⟨op_eqV F.hu, ops_eq, nx_eq⟩
theorem c_ne (F : Fr X C) : CmpS X .NotEq (rNeV X.K) vNe := ⟨op_neV F.hu, ops_ne, nx_ne⟩
theorem c_in (F : Fr X C) : CmpS X .In (rInW X.K) vIn := ⟨op_inW (Nat.lt_of_le_of_lt (Nat.add_le_add_left (by decide : 1 ≤ 64) _) F.hu), ops_inW, nx_inV⟩
theorem c_ni (F : Fr X C) : CmpS X .NotIn (rNotInW X.K) vNotIn := ⟨op_notInW (Nat.lt_of_le_of_lt (Nat.add_le_add_left (by decide : 1 ≤ 64) _) F.hu), ops_notInW, nx_notInV⟩
theorem c_is : CmpS X .Is rIsN vIs := ⟨op_isN, ops_is, nx_is⟩
theorem c_isn : CmpS X .IsNot rNotN vIsNot := ⟨op_notN, ops_isNot, nx_isNot⟩
theorem se_cmp {op : CmpOp} {r : R2} {f : Val → Val → Res Val} (o : CmpS X op r f) (ha : SE X C a ta ma) (hb : SE X C b tb mb) (hm : behindInMarks op b = false := by first | exact nomark _ | rfl) : SE X C (.Compare a [op] [b] pos) (tOp r ta tb) (e2 f ma mb) := ⟨pe_cmpR o.o ha.pe hb.pe hm, ev_op o.s o.n ha.ev hb.ev⟩
theorem se_chain {op op' : CmpOp} {r r' : R2} {f f' : Val → Val → Res Val} (o : CmpS X op r f) (o' : CmpS X op' r' f') (ha : SE X C a ta ma) (hb : SE X C b tb mb) (hc : SE X C c tc mc) (hm : lastMarks [op, op'] [b, c] = false := by with_unfolding_all rfl) : SE X C (.Compare a [op, op'] [b, c] pos) (tChain r r' ta tb tc) (eChain f f' ma mb mc) := ⟨pe_chain o.o o'.o ha.pe hb.pe hc.pe hm, ev_chain o.s o'.s o.n o'.n ha.ev hb.ev hc.ev⟩
variable {tt tu : TT} {mt mu : EB} {rest : List Expr}
theorem se_if (ht : SB X C c tt mt) (ha : SE X C a ta ma) (hb : SE X C b tb mb) : SE X C (.IfExp c a b pos) (tIf tt ta tb) (eIf mt ma mb) := ⟨pe_ifExp ht.pe ha.pe hb.pe, ev_if ht.ev ha.ev hb.ev⟩
theorem se_one {op} (ha : SE X C a ta ma) : SE X C (.BoolOp op [a] pos) ta ma := ⟨pe_one ha.pe, ha.ev⟩
theorem se_and (ha : SE X C a ta ma) (hb : SE X C (.BoolOp .And (b :: rest) pos) tb mb) : SE X C (.BoolOp .And (a :: b :: rest) pos) (tAndV ta tb) (eAnd ma mb) := ⟨pe_and ha.pe hb.pe, ev_and ha.ev hb.ev⟩
theorem se_or (ha : SE X C a ta ma) (hb : SE X C (.BoolOp .Or (b :: rest) pos) tb mb) : SE X C (.BoolOp .Or (a :: b :: rest) pos) (tOrV ta tb) (eOr ma mb) := ⟨pe_or ha.pe hb.pe, ev_or ha.ev hb.ev⟩
theorem Fr.u1 {X : Cx} {C : Cn} (F : Fr X C) : X.A.units + 1 < cLine := Nat.lt_of_le_of_lt (Nat.add_le_add_left (by decide : 1 ≤ 64) _) F.hu
theorem se_ix (F : Fr X C) (ha : SE X C a ta ma) (hb : SE X C b tb mb) (hs : PlainIx b := by intro _ _; rfl) : SE X C (.Subscript a b pos) (tOp (rIxV X.K) ta tb) (e2 vIx ma mb) := ⟨pe_ix (ix_V F.u1) ha.pe hb.pe hs, ev_op ops_ixV nx_ixV ha.ev hb.ev⟩
structure SPr (X : Cx) (C : Cn) (pos : Pos) (keys : List (Option Expr)) (values : List Expr) (trs : List (TE × TE)) (ps : List (Key × EX)) : Prop where
  pe : PPs X pos keys values trs
  ev : EvPr X.K C trs ps
theorem sp_nil : SPr X C pos [] [] [] [] := ⟨pps_nil, epr_nil⟩
theorem sp_str {x : Str} {j} {p : Pos} {ks : List (Option Expr)} {vs : List Expr} {trs : List (TE × TE)} {ps : List (Key × EX)} (ha : SE X C a ta ma) (hr : SPr X C pos ks vs trs ps) : SPr X C pos (some (.Constant (.str x) j p) :: ks) (a :: vs) ((tC (kV (.inr x)), ta) :: trs) ((.inr x, ma) :: ps) :=
  ⟨pps_cons pe_str ha.pe hr.pe, epr_cons ha.ev hr.ev⟩
theorem sp_int {x : Int} {j} {p : Pos} {ks : List (Option Expr)} {vs : List Expr} {trs : List (TE × TE)} {ps : List (Key × EX)} (ha : SE X C a ta ma) (hr : SPr X C pos ks vs trs ps) : SPr X C pos (some (.Constant (.int x) j p) :: ks) (a :: vs) ((tC (kV (.inl x)), ta) :: trs) ((.inl x, ma) :: ps) :=
  ⟨pps_cons pe_int ha.pe hr.pe, epr_cons ha.ev hr.ev⟩
theorem se_dict {keys : List (Option Expr)} {values : List Expr} {trs : List (TE × TE)} {ps : List (Key × EX)} (h : SPr X C pos keys values trs ps) (hall : keys.all (·.isSome) = true := by rfl) (hl : keys.length = values.length := by rfl) (h0 : keys ≠ [] := by intro h; cases h) (h15 : keys.length ≤ 15 := by decide) :
    SE X C (.Dict keys values pos) (tDisp trs) (eDict ps) := ⟨pe_disp h.pe hall hl h0 h15, ev_dict h.ev⟩
structure SO' (X : Cx) (C : Cn) (e : Option Expr) (te : TO) (m : Option EX) : Prop where
  pe : PO X e te
  ev : EvO X.K C te m
theorem so_none : SO' X C none tNoPart none := ⟨po_none, eo_none⟩
theorem so_some (ha : SE X C a ta ma) : SO' X C (some a) (tPart ta) (some ma) := ⟨po_some ha.pe, eo_some ha.ev⟩
theorem se_cut {lo hi : Option Expr} {tl th : TO} {ml mh : Option EX} {p2 : Pos} (ha : SE X C a ta ma) (hl : SO' X C lo tl ml) (hh : SO' X C hi th mh) : SE X C (.Subscript a (.Slice lo hi none p2) pos) (tSl (rSlV X.K) ta tl th) (eCut ma ml mh) :=
  ⟨pe_slice sl_V ha.pe hl.pe hh.pe, ev_cut ha.ev hl.ev hh.ev⟩
theorem sf_cut {lo hi : Option Expr} {tl th : TO} {ml mh : Option EX} {p2 : Pos} (ha : SE X C a ta ma) (hl : SO' X C lo tl ml) (hh : SO' X C hi th mh) : SF X C (.Subscript a (.Slice lo hi none p2) pos) (tSl (rSlV X.K) ta tl th) (eCut ma ml mh) :=
  ⟨pe_slice sl_V ha.pe hl.pe hh.pe, ef_cut ha.ev hl.ev hh.ev⟩
theorem sf_add (ha : SE X C a ta ma) (hb : SE X C b tb mb) : SF X C (.BinOp a .Add b pos) (tOp (rAddV X.K) ta tb) (e2 vAdd ma mb) := ⟨pe_op op_addV ha.pe hb.pe, ef_add ha.ev hb.ev⟩
variable {es : List Expr} {t : TA} {m : EL}
theorem sa_nil : SA X C [] tNil aNil := ⟨pa_nil, ea_nil⟩
theorem sa_cons (ha : SE X C a ta ma) (hr : SA X C es t m) (hs : starEach (a :: es) X.env = (false, eval a X.env) :: starEach es X.env := by rfl) : SA X C (a :: es) (tCons ta t) (aCons ma m) := ⟨pa_cons ha.pe hr.pe hs, ea_cons ha.ev hr.ev⟩
theorem se_tup {x1} (h : SA X C es t m) : SE X C (.Tuple es x1 pos) (tTup t) (eArgs vTup m) := ⟨pe_tup h.pe, ev_tup h.ev⟩
theorem sf_lst (h : SA X C es t m) : SF X C (.List es pos) (tLst t) (eArgs vLst m) := ⟨pe_lst h.pe, ef_lst h.ev⟩
theorem lst_lst (env : Env) (x : Val) (h : eArgs vLst m env = .ok x) : ∃ xs, x = .lst xs := by
  unfold eArgs at h
  cases hm : m env with
  | ok ys =>
    rw [hm] at h
    simp only [Res.bind_ok, vLst] at h
    split at h
    · cases h; exact ⟨_, rfl⟩
    · cases h
  | exc e => rw [hm] at h; cases h
  | bad => rw [hm] at h; cases h
theorem se_lst (h : SA X C es t m) : SE X C (.List es pos) (tLst t) (eArgs vLst m) := ⟨pe_lst h.pe, EvF.e lst_lst (ef_lst h.ev)⟩
/-! calls of what is built in -/
theorem se_len (hm : X.mg "len" = none) (h : SA X C (a :: es) t m) (hg : Gl X "len" := by rfl) (he : starEach (a :: es) X.env = (false, eval a X.env) :: starEach es X.env := by rfl) (hpl : (backTo pos (starEach es X.env)).any (·.1) = false := by rfl) :
    SE X C (.Call (.Name "len" p) (a :: es) [] pos) (tCB (rLenC X.K) t) (eArgs vLen m) := ⟨pe_callB call_lenC hg hm boot_len h.pe (by decide) (by decide) he hpl, ev_cb ca_len nx_len h.ev⟩
theorem se_sum (F : Fr X C) (hm : X.mg "sum" = none) (h : SA X C (a :: es) t m) (hg : Gl X "sum" := by rfl) (he : starEach (a :: es) X.env = (false, eval a X.env) :: starEach es X.env := by rfl) (hpl : (backTo pos (starEach es X.env)).any (·.1) = false := by rfl) :
    SE X C (.Call (.Name "sum" p) (a :: es) [] pos) (tCB (rSum X.K) t) (eArgs vSum m) := ⟨pe_callB (cr_sum F.ca) hg hm (by decide +kernel) h.pe (by decide) (by decide) he hpl, ev_cb ca_sum nx_sum h.ev⟩
theorem se_max (F : Fr X C) (hm : X.mg "max" = none) (h : SA X C (a :: es) t m) (hg : Gl X "max" := by rfl) (he : starEach (a :: es) X.env = (false, eval a X.env) :: starEach es X.env := by rfl) (hpl : (backTo pos (starEach es X.env)).any (·.1) = false := by rfl) :
    SE X C (.Call (.Name "max" p) (a :: es) [] pos) (tCB (rMaxC X.K) t) (eArgs vMax m) := ⟨pe_callB (call_maxC F.ca) hg hm (by decide +kernel) h.pe (by decide) (by decide) he hpl, ev_cb ca_max nx_max h.ev⟩
theorem se_min (F : Fr X C) (hm : X.mg "min" = none) (h : SA X C (a :: es) t m) (hg : Gl X "min" := by rfl) (he : starEach (a :: es) X.env = (false, eval a X.env) :: starEach es X.env := by rfl) (hpl : (backTo pos (starEach es X.env)).any (·.1) = false := by rfl) :
    SE X C (.Call (.Name "min" p) (a :: es) [] pos) (tCB (rMinC X.K) t) (eArgs vMin m) := ⟨pe_callB (call_minC F.ca) hg hm (by decide +kernel) h.pe (by decide) (by decide) he hpl, ev_cb ca_min nx_min h.ev⟩
theorem se_any (F : Fr X C) (hm : X.mg "any" = none) (h : SA X C (a :: es) t m) (hg : Gl X "any" := by rfl) (he : starEach (a :: es) X.env = (false, eval a X.env) :: starEach es X.env := by rfl) (hpl : (backTo pos (starEach es X.env)).any (·.1) = false := by rfl) :
    SE X C (.Call (.Name "any" p) (a :: es) [] pos) (tCB (rAny X.K) t) (eArgs vAny m) := ⟨pe_callB (cr_any F.ca) hg hm (by decide +kernel) h.pe (by decide) (by decide) he hpl, ev_cb ca_any nx_any h.ev⟩
theorem se_all (F : Fr X C) (hm : X.mg "all" = none) (h : SA X C (a :: es) t m) (hg : Gl X "all" := by rfl) (he : starEach (a :: es) X.env = (false, eval a X.env) :: starEach es X.env := by rfl) (hpl : (backTo pos (starEach es X.env)).any (·.1) = false := by rfl) :
    SE X C (.Call (.Name "all" p) (a :: es) [] pos) (tCB (rAll X.K) t) (eArgs vAll m) := ⟨pe_callB (cr_all F.ca) hg hm (by decide +kernel) h.pe (by decide) (by decide) he hpl, ev_cb ca_all nx_all h.ev⟩
theorem se_intOf (hm : X.mg "int" = none) (h : SA X C (a :: es) t m) (hg : Gl X "int" := by rfl) (he : starEach (a :: es) X.env = (false, eval a X.env) :: starEach es X.env := by rfl) (hpl : (backTo pos (starEach es X.env)).any (·.1) = false := by rfl) :
    SE X C (.Call (.Name "int" p) (a :: es) [] pos) (tCB rIntC t) (eArgs vInt m) := ⟨pe_callTy call_intC hg hm PySem.Pv.boot_int h.pe (by decide) (by decide) he hpl, ev_cb ca_int nx_int h.ev⟩
theorem se_tupOf (hm : X.mg "tuple" = none) (h : SA X C (a :: es) t m) (hg : Gl X "tuple" := by rfl) (he : starEach (a :: es) X.env = (false, eval a X.env) :: starEach es X.env := by rfl) (hpl : (backTo pos (starEach es X.env)).any (·.1) = false := by rfl) :
    SE X C (.Call (.Name "tuple" p) (a :: es) [] pos) (tCB (rTupC X.K) t) (eArgs vTupOf m) := ⟨pe_callTy call_tuple_of hg hm PySem.Pv.boot_tuple h.pe (by decide) (by decide) he hpl, ev_cb ca_tupOf nx_tupOf h.ev⟩
theorem sf_listOf (hm : X.mg "list" = none) (h : SA X C (a :: es) t m) (hg : Gl X "list" := by rfl) (he : starEach (a :: es) X.env = (false, eval a X.env) :: starEach es X.env := by rfl) (hpl : (backTo pos (starEach es X.env)).any (·.1) = false := by rfl) :
    SF X C (.Call (.Name "list" p) (a :: es) [] pos) (tCB (rListC X.K) t) (eArgs vListOf m) := ⟨pe_callTy call_list_of hg hm PySem.Pv.boot_list h.pe (by decide) (by decide) he hpl, ef_listOf h.ev⟩
theorem listOf_lst (env : Env) (x : Val) (h : eArgs vListOf m env = .ok x) : ∃ xs, x = .lst xs := by
  unfold eArgs at h
  cases hm : m env with
  | ok ys =>
    rw [hm] at h
    simp only [Res.bind_ok] at h
    unfold vListOf at h
    split at h
    · cases h; exact ⟨_, rfl⟩
    · cases h; exact ⟨_, rfl⟩
    · cases h
  | exc e => rw [hm] at h; cases h
  | bad => rw [hm] at h; cases h
theorem se_listOf (hm : X.mg "list" = none) (h : SA X C (a :: es) t m) (hg : Gl X "list" := by rfl) (he : starEach (a :: es) X.env = (false, eval a X.env) :: starEach es X.env := by rfl) (hpl : (backTo pos (starEach es X.env)).any (·.1) = false := by rfl) :
    SE X C (.Call (.Name "list" p) (a :: es) [] pos) (tCB (rListC X.K) t) (eArgs vListOf m) := ⟨(sf_listOf (C := C) hm h hg he hpl).pe, EvF.e listOf_lst (sf_listOf (C := C) (p := p) (pos := pos) hm h hg he hpl).ev⟩
theorem se_isi {u : Ty} {x : Str} {p2 : Pos} (hm : X.mg "isinstance" = none) (hx : X.mg x = none) (hv : bootBuiltins x = some (.type u.nm)) (ha : SE X C a ta ma) (hg : Gl X "isinstance" := by rfl) (hgx : Gl X x := by rfl) (hn : x ≠ "__name__" := by decide) (hd : (x == ("__debug__" : Str)) = false := by decide)
    (he : starEach [a, .Name x p2] X.env = (false, eval a X.env) :: starEach [.Name x p2] X.env := by rfl) (he2 : starEach [.Name x p2] X.env = (false, eval (.Name x p2) X.env) :: starEach [] X.env := by rfl) (hpl : (backTo pos (starEach [.Name x p2] X.env)).any (·.1) = false := by rfl) :
    SE X C (.Call (.Name "isinstance" p) [a, .Name x p2] [] pos) (tCB (rIsi X.K) (tCons ta (tCons (tC (.ty u.nm)) tNil))) (e1 (vIsi u) ma) :=
  ⟨pe_callB call_isi hg hm boot_isinstance (pa_cons ha.pe (pa_cons (pe_bltn (v := .ty u.nm) hgx hx hv rfl hn hd) pa_nil he2) he) (by decide) (by decide) he hpl, ev_isi ha.ev⟩
theorem bi_int : bootBuiltins "int" = some (.type Ty.int.nm) := by decide +kernel
theorem bi_bool : bootBuiltins "bool" = some (.type Ty.bool.nm) := by decide +kernel
theorem bi_str : bootBuiltins "str" = some (.type Ty.str.nm) := by decide +kernel
theorem bi_list : bootBuiltins "list" = some (.type Ty.list.nm) := by decide +kernel
theorem bi_tuple : bootBuiltins "tuple" = some (.type Ty.tuple.nm) := by decide +kernel
theorem bi_dict : bootBuiltins "dict" = some (.type Ty.dict.nm) := by decide +kernel
/-! tests -/
theorem sb_cmp {op : CmpOp} {r : R2} {f : Val → Val → Res Val} (o : CmpS X op r f) (ha : SE X C a ta ma) (hb : SE X C b tb mb) (hm : behindInMarks op b = false := by first | exact nomark _ | rfl) : SB X C (.Compare a [op] [b] pos) (tTest (tOp r ta tb)) (bVal (e2 f ma mb)) :=
  ⟨pt_cmpR o.o ha.pe hb.pe hm, eb_test (ev_op o.s o.n ha.ev hb.ev)⟩
theorem sb_chain {op op' : CmpOp} {r r' : R2} {f f' : Val → Val → Res Val} (o : CmpS X op r f) (o' : CmpS X op' r' f') (ha : SE X C a ta ma) (hb : SE X C b tb mb) (hc : SE X C c tc mc) (hm : lastMarks [op, op'] [b, c] = false := by with_unfolding_all rfl) :
    SB X C (.Compare a [op, op'] [b, c] pos) (tTest (tChain r r' ta tb tc)) (bVal (eChain f f' ma mb mc)) := ⟨pt_chain o.o o'.o ha.pe hb.pe hc.pe hm, eb_test (ev_chain o.s o'.s o.n o'.n ha.ev hb.ev hc.ev)⟩
theorem sb_not (ha : SB X C a tt mt) : SB X C (.UnaryOp .Not a pos) (tNot tt) (bNot mt) := ⟨pt_not ha.pe, eb_not ha.ev⟩
theorem sb_tru (ha : SE X C a ta ma) (he : ∀ whole, isTrue a X.env whole = (do let v ← whole; standAt a.pos; holding [v] (truthy v)) := by intro _; rfl) : SB X C a (tTru X.K ta) (bTruth ma) := ⟨pt_truth ha.pe he, eb_truth ha.ev⟩
theorem sw_and1 (ha : SB X C a tt mt) : SW X C (.BoolOp .And [a] pos) tt mt := ⟨pw_and1 ha.pe, ha.ev⟩
theorem sw_or1 (ha : SB X C a tt mt) : SW X C (.BoolOp .Or [a] pos) tt mt := ⟨pw_or1 ha.pe, ha.ev⟩
theorem sw_and (ha : SB X C a tt mt) (hb : SW X C (.BoolOp .And (b :: rest) pos) tu mu) : SW X C (.BoolOp .And (a :: b :: rest) pos) (tAnd tt tu) (bAnd mt mu) := ⟨pw_and ha.pe hb.pe, eb_and ha.ev hb.ev⟩
theorem sw_or (ha : SB X C a tt mt) (hb : SW X C (.BoolOp .Or (b :: rest) pos) tu mu) : SW X C (.BoolOp .Or (a :: b :: rest) pos) (tOr tt tu) (bOr mt mu) := ⟨pw_or ha.pe hb.pe, eb_or ha.ev hb.ev⟩
theorem sb_w (h : SW X C a tt mt) : SB X C a tt mt := ⟨h.pe.pt, h.ev⟩
/-! what is walked, targets -/
structure STg (X : Cx) (tg : Expr) (g : TG) (put : Put) (is : List Nat) : Prop where
  pe : PG X tg g
  ev : EvP X.K g put is
theorem sg_name (i : Nat) {x : Str} (hN : X.N.Nodup := by assumption) (hi : X.N[i]? = some x := by rfl) (hx : Loc X.env.scope x := by first | exact .inl rfl | exact .inr rfl) (hf : X.fn x = true ∨ X.env.scope.names.lookup x = some .local := by first | exact .inr rfl | exact .inl rfl) : STg X (.Name x pos) (gName i) (pName i) [i] :=
  ⟨pg_name hN hi hx hf, ep_name⟩
structure STs (X : Cx) (tgs : List Expr) (g : TGs) (is : List Nat) : Prop where
  pe : PGs X tgs g
  ev : EvPs X.K g is
theorem sgs_nil : STs X [] gNil [] := ⟨pgs_nil, eps_nil⟩
theorem sgs_cons {i : Nat} {g : TGs} {is : List Nat} (h1 : STg X a (gName i) (pName i) [i]) (h2 : STs X es g is) (hs : (assignEach (a :: es) X.env).map (·.2) = assign a X.env :: (assignEach es X.env).map (·.2) := by rfl) : STs X (a :: es) (gCons (gName i) g) (i :: is) :=
  ⟨pgs_cons h1.pe h2.pe hs, eps_cons h2.ev⟩
theorem sg_tup {k : Nat} {g : TGs} {is : List Nat} (F : Fr X C) (h : STs X es g is) (hn : (assignEach es X.env).length = is.length := by rfl) (hst : (assignEach es X.env).findIdx? (·.1) = none := by rfl) : STg X (.Tuple es k pos) (gTup X.K is.length g) (pTup is) is := ⟨pg_tup F.ca h.pe hn hst, ep_tup h.ev⟩
theorem si_seq {tg : Expr} (ha : SE X C a ta ma) : SI X C tg a (iSeqT X.K ta) (iSeq ma) := ⟨pi_seqT ha.pe, ei_seq ha.ev⟩
theorem si_rng1 {tg : Expr} (hm : X.mg "range" = none) (ha : SE X C a ta ma) (hg : Gl X "range" := by rfl) (hs : starEach [a] X.env = [(false, eval a X.env)] := by rfl) : SI X C tg (.Call (.Name "range" p) [a] [] pos) (iRng1 (tCons ta tNil)) (iRange1 ma) := ⟨pi_range1 hg hm (pa_cons ha.pe pa_nil hs) hs, ei_range1 ha.ev⟩
theorem si_rng2 {tg : Expr} (hm : X.mg "range" = none) (ha : SE X C a ta ma) (hb : SE X C b tb mb) (hg : Gl X "range" := by rfl) (hs : starEach [a, b] X.env = [(false, eval a X.env), (false, eval b X.env)] := by rfl) (hs2 : starEach [b] X.env = [(false, eval b X.env)] := by rfl) :
    SI X C tg (.Call (.Name "range" p) [a, b] [] pos) (iRng2 (tCons ta (tCons tb tNil))) (iRange2 ma mb) := ⟨pi_range2 hg hm (pa_cons ha.pe (pa_cons hb.pe pa_nil hs2) (by rw [hs, hs2])) hs hs2, ei_range2 ha.ev hb.ev⟩
theorem si_enum {elts : List Expr} {kk : Nat} {tpos : Pos} (hm : X.mg "enumerate" = none) (ha : SE X C a ta ma) (hg : Gl X "enumerate" := by rfl) (hs : starEach [a] X.env = [(false, eval a X.env)] := by rfl) : SI X C (.Tuple elts kk tpos) (.Call (.Name "enumerate" p) [a] [] pos) (iEnum X.K (tCons ta tNil)) (iEnumV ma) := ⟨pi_enum hg hm (pa_cons ha.pe pa_nil hs) hs, ei_enum ha.ev⟩
theorem si_zip {elts : List Expr} {kk : Nat} {tpos : Pos} (hm : X.mg "zip" = none) (ha : SE X C a ta ma) (hb : SE X C b tb mb) (hg : Gl X "zip" := by rfl) (hs : starEach [a, b] X.env = (false, eval a X.env) :: starEach [b] X.env := by rfl) (hs2 : starEach [b] X.env = [(false, eval b X.env)] := by rfl) (hpl : (backTo pos (starEach [b] X.env)).any (·.1) = false := by rfl) :
    SI X C (.Tuple elts kk tpos) (.Call (.Name "zip" p) [a, b] [] pos) (iZip X.K (tCons ta (tCons tb tNil))) (iZipV ma mb) := ⟨pi_zip hg hm (pa_cons ha.pe (pa_cons hb.pe pa_nil hs2) hs) hs hpl, ei_zip ha.ev hb.ev⟩
theorem se_and1 (ha : SE X C a ta ma) (hb : SE X C b tb mb) : SE X C (.BinOp a .BitAnd b pos) (tOp rAnd1 ta tb) (e2 vAnd1 ma mb) := ⟨pe_op op_and1 ha.pe hb.pe, ev_op ops_and1 nx_and1 ha.ev hb.ev⟩
theorem sf_rep (ha : SA X C es t m) (hb : SE X C b tb mb) {p2 : Pos} : SF X C (.BinOp (.List es p2) .Mult b pos) (tOp rRep (tLst t) tb) (e2 vRep (eArgs vLst m) mb) := ⟨pe_op op_rep (pe_lst ha.pe) hb.pe, ef_rep lst_lst (ef_lst ha.ev) hb.ev⟩
theorem rep_lst (env : Env) (x : Val) (h : e2 vRep ma mb env = .ok x) : ∃ xs, x = .lst xs := by
  unfold e2 at h
  cases h1 : ma env with
  | ok y =>
    rw [h1] at h
    simp only [Res.bind_ok] at h
    cases h2 : mb env with
    | ok z =>
      rw [h2] at h
      simp only [Res.bind_ok] at h
      unfold vRep at h
      split at h
      · obtain ⟨_, rfl⟩ := ite_ok h; exact ⟨_, rfl⟩
      · cases h
    | exc e => rw [h2] at h; cases h
    | bad => rw [h2] at h; cases h
  | exc e => rw [h1] at h; cases h
  | bad => rw [h1] at h; cases h
theorem se_rep (ha : SA X C es t m) (hb : SE X C b tb mb) {p2 : Pos} : SE X C (.BinOp (.List es p2) .Mult b pos) (tOp rRep (tLst t) tb) (e2 vRep (eArgs vLst m) mb) := ⟨(sf_rep (pos := pos) (p2 := p2) ha hb).pe, EvF.e rep_lst (sf_rep (pos := pos) (p2 := p2) ha hb).ev⟩
/-- xs.index(e) -/
theorem se_index {pa cp : Pos} (ha : SE X C a ta ma) (hb : SE X C b tb mb) (hbase : attributeBase a "index" X.env (eval a X.env) = eval a X.env := by rfl)
    (hfew : ((backTo cp (starEach [b] X.env)).all (fun x => !x.1) && (backToKw cp (keywordEach [] X.env)).all (fun x => x.1.isSome)
      && decide ([b].length + ([] : List Keyword).length + (if ([] : List Keyword).isEmpty then 0 else 1) < 30)) = true := by rfl)
    (hline : (pa.endLine == cp.line) = true := by rfl) (hs : starEach [b] X.env = (false, eval b X.env) :: starEach [] X.env := by rfl) (hplain : (backTo cp (starEach [] X.env)).any (·.1) = false := by rfl) :
    SE X C (.Call (.Attribute a "index" pa) [b] [] cp) (tBM X.K "list" (rIndex X.K) ta (tCons tb tNil)) (eIndex ma mb) := ⟨pe_bm PySem.F.plainAttrs_list PySem.F.slot_list_index PySem.F.type_list_index mt_index ha.pe (pa_cons hb.pe pa_nil hs) hbase hfew hline hs hplain, ev_index ha.ev hb.ev⟩
/-- d.get(k), d.get(k, z) -/
theorem se_get1 {pa cp : Pos} (F : Fr X C) (ha : SE X C a ta ma) (hb : SE X C b tb mb) (m1 : M1 X a "get" pa b cp := by exact ⟨rfl, rfl, rfl, rfl⟩) : SE X C (.Call (.Attribute a "get" pa) [b] [] cp) (tDGet1 ta tb) (eGet1 ma mb) := ⟨pe_dget1 F.u1 ha.pe hb.pe m1, ev_get1 ha.ev hb.ev⟩
theorem se_get2 {pa cp : Pos} (F : Fr X C) (ha : SE X C a ta ma) (hb : SE X C b tb mb) (hc : SE X C c tc mc) (m2 : M2 X a "get" pa b c cp := by exact ⟨rfl, rfl, rfl, rfl⟩) : SE X C (.Call (.Attribute a "get" pa) [b, c] [] cp) (tDGet2 ta tb tc) (eGet2 ma mb mc) := ⟨pe_dget2 F.u1 ha.pe hb.pe hc.pe m2, ev_get2 ha.ev hb.ev hc.ev⟩
end
end Vm

/-! The value machine over HandS: comprehensions, statements, defs. -/
namespace Vm
open PySem L2 PyProof.Rows

section
variable {X : Cx} {C : Cn} {a b c : Expr} {ta tb tc : TE} {ma mb mc : EX} {pos p : Pos} {tt : TT} {mt : EB}
/-! ### comprehensions -/
structure STt (X : Cx) (C : Cn) (es : List Expr) (te : TT) (m : EB) : Prop where
  pe : PTs X es te
  ev : EvB X.K C te m
theorem st_nil : STt X C [] tYes bYes := ⟨pts_nil, fun N H σ env e s Q h => PostR.now (P := fun x _ H' => Q x H') e h⟩
theorem st_one (h : SB X C a tt mt) : STt X C [a] tt mt := ⟨pts_one h.pe, h.ev⟩
abbrev inBlk (X : Cx) (scope : Scope) (P : Cx → Prop) : Prop := ∀ (s : Shared) (H : Hp) (Cc : Addr) (cl : List (Str × Addr)) (fp : List Addr), P (X.blk s H scope (compEnvC scope cl Cc X.env) fp)
theorem sf_comp {elt tg iter : Expr} {ifs : List Expr} {scope : Scope} {own : List (Str × Nat)} {wi : TI} {it : EI} {g : TG} {put : Put} {is : List Nat} {te : TE} {me : EX} (F : Fr X C) (hi : SI X C tg iter wi it) (hp : inBlk X scope fun Y => STg Y tg g put is) (ht : inBlk X scope fun Y => STt Y (C0 C) ifs tt mt)
    (he : inBlk X scope fun Y => SE Y (C0 C) elt te me) (hsub : ∀ i ∈ is, i ∈ own.map (·.2) := by decide) (hN : X.N.Nodup := by assumption) (ok : BlkOk X.N X.env.scope scope own := by exact blkOk_by (by rfl)) (hs : ∀ x, foldedSetIterable iter X.env x = pure x := by intro _; rfl) :
    SF X C (.ListComp elt [⟨tg, iter, ifs, 0⟩] scope pos) (tLc wi g tt te (own.map (·.2))) (eComp it (own.map (·.2)) put mt me) :=
  ⟨pe_lc F.ca hN hi.pi ok (fun s H Cc cl fp => (hp s H Cc cl fp).pe) (fun s H Cc cl fp => (ht s H Cc cl fp).pe) (fun s H Cc cl fp => (he s H Cc cl fp).pe) hs,
   ef_comp hi.ev (hp X.s_0 X.H_0 0 [] []).ev hsub (ht X.s_0 X.H_0 0 [] []).ev (he X.s_0 X.H_0 0 [] []).ev⟩
theorem comp_lst {it : EI} {own : List Nat} {put : Put} (env : Env) (x : Val) (h : eComp it own put mt me env = .ok x) : ∃ xs, x = .lst xs := by
  unfold eComp at h
  cases hm : it env with
  | ok ys =>
    rw [hm] at h
    simp only [Res.bind_ok] at h
    split at h
    · cases hq : compL put mt me (wipeE env own) ys with
      | ok r => rw [hq] at h; cases h; exact ⟨_, rfl⟩
      | exc e => rw [hq] at h; cases h
      | bad => rw [hq] at h; cases h
    · cases h
  | exc e => rw [hm] at h; cases h
  | bad => rw [hm] at h; cases h
theorem SF.comp {it : EI} {own : List Nat} {put : Put} {te : TE} (h : SF X C a te (eComp it own put mt me)) : SE X C a te (eComp it own put mt me) := ⟨h.pe, EvF.e comp_lst h.ev⟩

/-! ### statements -/
variable {st : Stmt} {rest : List Stmt} {t u : TS} {m n : ST} {te : TE} {me : EX}
theorem ss_nil : SSs X C [] tNext sNext := ⟨pss_nil, es_next⟩
theorem ss_one (h : SSt X C st t m) : SSs X C [st] t m := ⟨pss_one h.ps, h.ev⟩
theorem ss_cons (h : SSt X C st t m) (r : SSs X C rest u n) : SSs X C (st :: rest) (tSeq t u) (sSeq m n) := ⟨pss_cons h.ps r.ps, es_seq h.ev r.ev⟩
/-- ahead of these: the slot's list stays from here on; slots forgotten -/
theorem ss_freeze (i : Nat) (r : SSs X C rest u n) : SSs X C rest u (sSeq (sFreeze i) n) := ⟨r.ps, es_freeze r.ev⟩
theorem ss_forget (is : List Nat) (r : SSs X C rest u n) : SSs X C rest u (sSeq (sForget is) n) := ⟨r.ps, es_forget r.ev⟩
theorem ss_then (is : List Nat) (r : SSs X C rest u n) : SSs X C rest u (sSeq n (sForget is)) := ⟨r.ps, es_then r.ev⟩
theorem sst_freeze (i : Nat) (r : SSt X C st u n) : SSt X C st u (sSeq (sFreeze i) n) := ⟨r.ps, es_freeze r.ev⟩
theorem sst_forget (is : List Nat) (r : SSt X C st u n) : SSt X C st u (sSeq (sForget is) n) := ⟨r.ps, es_forget r.ev⟩
theorem ss_pass : SSt X C (.Pass pos) tNext sNext := ⟨ps_pass, es_next⟩
theorem ss_break : SSt X C (.Break pos) tBreak sBreak := ⟨ps_break, es_break⟩
theorem ss_cont : SSt X C (.Continue pos) tCont sCont := ⟨ps_continue, es_cont⟩
theorem ss_doc {x : Str} {j} {pos' : Pos} : SSt X C (.Expr (.Constant (.str x) j pos) pos') tNext sNext := ⟨ps_doc, es_next⟩
theorem ss_expr (ha : SE X C a ta ma) (hs : swapsWith a none pos.line X.env = pure false := by rfl) : SSt X C (.Expr a pos) (tDrop ta) (sDrop ma) := ⟨ps_expr ha.pe hs, es_drop ha.ev⟩
theorem ss_ret (ha : SE X C a ta ma) : SSt X C (.Return (some a) pos) (tRet ta) (sRet ma) := ⟨ps_ret ha.pe, es_ret ha.ev⟩
theorem ss_retN : SSt X C (.Return none pos) tRetN sRetN := ⟨ps_retN, es_retN⟩
theorem ss_if {as bs : List Stmt} (hc : SB X C c tt mt) (ha : SSs X C as t m) (hb : SSs X C bs u n) : SSt X C (.If c as bs pos) (tIfS tt t u) (sIf mt m n) := ⟨ps_if hc.pe ha.ps hb.ps, es_if hc.ev ha.ev hb.ev⟩
theorem ss_while {as : List Stmt} (k : Nat) (F : Fr X C) (hc : SB X C c tt mt) (ha : SSs X C as t m) : SSt X C (.While c as [] pos) (tWhile tt t) (sWhile k mt m) := ⟨ps_while F.ow hc.pe ha.ps, es_while hc.ev ha.ev⟩
theorem ss_for {tg iter : Expr} {wi : TI} {it : EI} {g : TG} {put : Put} {is : List Nat} {as : List Stmt} (F : Fr X C) (hi : SI X C tg iter wi it) (hp : STg X tg g put is) (ha : SSs X C as t m)
    (hs : ∀ x, foldedSetIterable iter X.env x = pure x := by intro _; rfl) : SSt X C (.For tg iter as [] pos) (tFor wi g t) (sFor it put m) := ⟨ps_for F.ow F.ca hi.pi hp.pe ha.ps hs, es_for hi.ev hp.ev ha.ev⟩
/-- name = e -/
theorem ss_asg (i : Nat) {x : Str} (ps : PE X a ta) (ev : EvS X.K C (tAsg ta (gName i)) m) (hs : swapsWith a (some (.Name x p)) pos.line X.env = pure false := by rfl) (hN : X.N.Nodup := by assumption) (hi : X.N[i]? = some x := by rfl) (hx : Loc X.env.scope x := by first | exact .inl rfl | exact .inr rfl)
    (hf : X.fn x = true ∨ X.env.scope.names.lookup x = some .local := by first | exact .inr rfl | exact .inl rfl) : SSt X C (.Assign [.Name x p] a pos) (tAsg ta (gName i)) m := ⟨ps_set hN hi hx ps hs hf, ev⟩
theorem ss_set (i : Nat) {x : Str} (ha : SE X C a ta ma) (hs : swapsWith a (some (.Name x p)) pos.line X.env = pure false := by rfl) (hN : X.N.Nodup := by assumption) (hi : X.N[i]? = some x := by rfl) (hx : Loc X.env.scope x := by first | exact .inl rfl | exact .inr rfl)
    (hf : X.fn x = true ∨ X.env.scope.names.lookup x = some .local := by first | exact .inr rfl | exact .inl rfl) : SSt X C (.Assign [.Name x p] a pos) (tAsg ta (gName i)) (sSet i ma) := ss_asg i ha.pe (es_set ha.ev) hs hN hi hx hf
theorem ss_setN (i : Nat) {x : Str} (ha : SE X C a ta ma) (hs : swapsWith a (some (.Name x p)) pos.line X.env = pure false := by rfl) (hN : X.N.Nodup := by assumption) (hi : X.N[i]? = some x := by rfl) (hx : Loc X.env.scope x := by first | exact .inl rfl | exact .inr rfl)
    (hf : X.fn x = true ∨ X.env.scope.names.lookup x = some .local := by first | exact .inr rfl | exact .inl rfl) : SSt X C (.Assign [.Name x p] a pos) (tAsg ta (gName i)) (sSetN i ma) := ss_asg i ha.pe (es_setN ha.ev) hs hN hi hx hf
theorem ss_own (i : Nat) {x : Str} (ha : SF X C a ta ma) (hs : swapsWith a (some (.Name x p)) pos.line X.env = pure false := by rfl) (hN : X.N.Nodup := by assumption) (hi : X.N[i]? = some x := by rfl) (hx : Loc X.env.scope x := by first | exact .inl rfl | exact .inr rfl)
    (hf : X.fn x = true ∨ X.env.scope.names.lookup x = some .local := by first | exact .inr rfl | exact .inl rfl) : SSt X C (.Assign [.Name x p] a pos) (tAsg ta (gName i)) (sOwn i ma) := ss_asg i ha.pe (es_own ha.ev) hs hN hi hx hf
theorem ss_ownN (i : Nat) {x : Str} (ha : SF X C a ta ma) (hs : swapsWith a (some (.Name x p)) pos.line X.env = pure false := by rfl) (hN : X.N.Nodup := by assumption) (hi : X.N[i]? = some x := by rfl) (hx : Loc X.env.scope x := by first | exact .inl rfl | exact .inr rfl)
    (hf : X.fn x = true ∨ X.env.scope.names.lookup x = some .local := by first | exact .inr rfl | exact .inl rfl) : SSt X C (.Assign [.Name x p] a pos) (tAsg ta (gName i)) (sOwnN i ma) := ss_asg i ha.pe (es_ownN ha.ev) hs hN hi hx hf
/-- a, b = e -/
theorem ss_put {tg : Expr} {g : TG} {put : Put} {is : List Nat} (hp : STg X tg g put is) (hnx : ∀ x env, NX (put x env)) (ha : SE X C a ta ma) (hs : swapsWithSole [tg] a pos.line X.env = pure false := by rfl) (hw : swappedStores [tg] a X.env = pure none := by rfl)
    (h1 : (assignEach [tg] X.env).map (·.2) = [assign tg X.env] := by rfl) : SSt X C (.Assign [tg] a pos) (tAsg ta g) (sPut put ma) := ⟨ps_asg ha.pe hp.pe hs hw h1, es_put hp.ev hnx ha.ev⟩
theorem nx_pName {i : Nat} (x : Val) (env : Env) : NX (pName i x env) := by unfold pName; exact nx_ite nx_ok nx_bad
theorem nx_putAll : ∀ {is : List Nat} (xs : List Val) (env : Env), NX (putAll is xs env)
  | [], [], _ => nx_ok
  | [], _ :: _, _ => nx_bad
  | _ :: _, [], _ => nx_bad
  | i :: is, x :: xs, env => nx_bind (nx_pName x env) fun e => nx_putAll xs e
theorem nx_pTup {is : List Nat} (x : Val) (env : Env) : NX (pTup is x env) := by
  unfold pTup
  split
  · exact nx_putAll _ _
  · exact nx_bad
/-- x[b] = a -/
theorem ss_item (i : Nat) {x : Str} {p2 : Pos} (ha : SE X C a ta ma) (hb : SE X C b tb mb) (hN : X.N[i]? = some x := by rfl) (hv : Vis X.env.scope x := by first | exact Or.inl rfl | exact Or.inr (Or.inl rfl) | exact Or.inr (Or.inr rfl)) (hd : (x == ("__debug__" : Str)) = false := by decide)
    (hcd : (x == ("__classdict__" : Str)) = false := by decide) (hsb : ∀ v, assign (.Subscript (.Name x p) b p2) X.env v = (do
      let ov ← holding [v] (eval (.Name x p) X.env)
      let iv ← holding [v, ov] (eval b X.env)
      standAt p2
      holding [v, ov, iv] (setItem ov iv v)
      release [v, ov, iv] []) := by intro _; rfl)
    (hs : swapsWithSole [.Subscript (.Name x p) b p2] a pos.line X.env = pure false := by rfl) (hw : swappedStores [.Subscript (.Name x p) b p2] a X.env = pure none := by rfl)
    (h1 : (assignEach [.Subscript (.Name x p) b p2] X.env).map (·.2) = [assign (.Subscript (.Name x p) b p2) X.env] := by rfl) : SSt X C (.Assign [.Subscript (.Name x p) b p2] a pos) (tAsg ta (gSub (tVar i) tb rSetL)) (sOn i (sItem i mb ma)) :=
  ⟨ps_asg ha.pe (pg_sub (pv i hN hv hd hcd) hb.pe set_list hsb) hs hw h1, es_item ha.ev hb.ev⟩
theorem ss_itemN (i : Nat) {x : Str} {p2 : Pos} (ha : SE X C a ta ma) (hb : SE X C b tb mb) (hN : X.N[i]? = some x := by rfl) (hv : Vis X.env.scope x := by first | exact Or.inl rfl | exact Or.inr (Or.inl rfl) | exact Or.inr (Or.inr rfl)) (hd : (x == ("__debug__" : Str)) = false := by decide)
    (hcd : (x == ("__classdict__" : Str)) = false := by decide) (hsb : ∀ v, assign (.Subscript (.Name x p) b p2) X.env v = (do
      let ov ← holding [v] (eval (.Name x p) X.env)
      let iv ← holding [v, ov] (eval b X.env)
      standAt p2
      holding [v, ov, iv] (setItem ov iv v)
      release [v, ov, iv] []) := by intro _; rfl)
    (hs : swapsWithSole [.Subscript (.Name x p) b p2] a pos.line X.env = pure false := by rfl) (hw : swappedStores [.Subscript (.Name x p) b p2] a X.env = pure none := by rfl)
    (h1 : (assignEach [.Subscript (.Name x p) b p2] X.env).map (·.2) = [assign (.Subscript (.Name x p) b p2) X.env] := by rfl) : SSt X C (.Assign [.Subscript (.Name x p) b p2] a pos) (tAsg ta (gSub (tVar i) tb rSetL)) (sOn i (sItemN i mb ma)) :=
  ⟨ps_asg ha.pe (pg_sub (pv i hN hv hd hcd) hb.pe set_list hsb) hs hw h1, es_itemN ha.ev hb.ev⟩
theorem ops_ipAdd {K : PySem.W.Frag} : OpS K (ipI fun i j => i + j) vIpAdd := by
  intro N H e v w x y rx ry Q ⟨z, hz, k⟩
  unfold vIpAdd at hz
  split at hz
  · cases hz; cases rx; cases ry
    exact ⟨_, _, rfl, rfl, k N H (Gr.refl e) _ (.int _)⟩
  · cases hz
theorem ops_ipSub {K : PySem.W.Frag} : OpS K (ipI fun i j => i - j) vSub := by
  intro N H e v w x y rx ry Q ⟨z, hz, k⟩
  unfold vSub at hz
  split at hz
  · cases hz; cases rx; cases ry
    exact ⟨_, _, rfl, rfl, k N H (Gr.refl e) _ (.int _)⟩
  · cases hz
theorem nx_ipAdd (x y : Val) : NX (vIpAdd x y) := by unfold vIpAdd; split <;> first | exact nx_ok | exact nx_bad
theorem ss_aug (i : Nat) {x : Str} {op : Operator} {r : TIp} {f : Val → Val → Res Val} (ho : PIp X op r) (hr : OpS X.K r f) (nx : ∀ x y, NX (f x y)) (ha : SE X C a ta ma) (hN : X.N.Nodup := by assumption) (hi : X.N[i]? = some x := by rfl) (hx : Loc X.env.scope x := by first | exact .inl rfl | exact .inr rfl)
    (hf : X.fn x = true ∨ X.env.scope.names.lookup x = some .local := by first | exact .inr rfl | exact .inl rfl) : SSt X C (.AugAssign (.Name x p) op a pos) (tAug i ta r) (sAug f i ma) := ⟨ps_aug hN hi hx ha.pe ho hf, es_aug hr nx ha.ev⟩
theorem ss_augAdd (i : Nat) {x : Str} (ha : SE X C a ta ma) (hN : X.N.Nodup := by assumption) (hi : X.N[i]? = some x := by rfl) (hx : Loc X.env.scope x := by first | exact .inl rfl | exact .inr rfl)
    (hf : X.fn x = true ∨ X.env.scope.names.lookup x = some .local := by first | exact .inr rfl | exact .inl rfl) : SSt X C (.AugAssign (.Name x p) .Add a pos) (tAug i ta (ipI fun i j => i + j)) (sAug vIpAdd i ma) := ss_aug i ip_add ops_ipAdd nx_ipAdd ha hN hi hx hf
theorem ss_augSub (i : Nat) {x : Str} (ha : SE X C a ta ma) (hN : X.N.Nodup := by assumption) (hi : X.N[i]? = some x := by rfl) (hx : Loc X.env.scope x := by first | exact .inl rfl | exact .inr rfl)
    (hf : X.fn x = true ∨ X.env.scope.names.lookup x = some .local := by first | exact .inr rfl | exact .inl rfl) : SSt X C (.AugAssign (.Name x p) .Sub a pos) (tAug i ta (ipI fun i j => i - j)) (sAug vSub i ma) := ss_aug i ip_sub ops_ipSub nx_sub ha hN hi hx hf
/-- x.append(a) -/
theorem pe_app (i : Nat) {x : Str} {pa : Pos} (ha : SE X C a ta ma) (hN : X.N[i]? = some x := by rfl) (hv : Vis X.env.scope x := by first | exact Or.inl rfl | exact Or.inr (Or.inl rfl) | exact Or.inr (Or.inr rfl)) (hd : (x == ("__debug__" : Str)) = false := by decide) (hcd : (x == ("__classdict__" : Str)) = false := by decide)
    (hbase : attributeBase (.Name x p) "append" X.env (eval (.Name x p) X.env) = eval (.Name x p) X.env := by rfl)
    (hfew : ((backTo pos (starEach [a] X.env)).all (fun x => !x.1) && (backToKw pos (keywordEach [] X.env)).all (fun x => x.1.isSome)
      && decide ([a].length + ([] : List Keyword).length + (if ([] : List Keyword).isEmpty then 0 else 1) < 30)) = true := by rfl)
    (hline : (pa.endLine == pos.line) = true := by rfl) (hs : starEach [a] X.env = (false, eval a X.env) :: starEach [] X.env := by rfl) (hplain : (backTo pos (starEach [] X.env)).any (·.1) = false := by rfl) :
    PE X (.Call (.Attribute (.Name x p) "append" pa) [a] [] pos) (tBM X.K "list" rAppend (tVar i) (tCons ta tNil)) :=
  pe_bm PySem.F.plainAttrs_list PySem.F.slot_list_append PySem.F.type_list_append mt_append (pv i hN hv hd hcd) (pa_cons ha.pe pa_nil hs) hbase hfew hline hs hplain
theorem ss_app (i : Nat) {x : Str} {pa pos2 : Pos} (ha : SE X C a ta ma) (hN : X.N[i]? = some x := by rfl) (hv : Vis X.env.scope x := by first | exact Or.inl rfl | exact Or.inr (Or.inl rfl) | exact Or.inr (Or.inr rfl)) (hd : (x == ("__debug__" : Str)) = false := by decide) (hcd : (x == ("__classdict__" : Str)) = false := by decide)
    (hbase : attributeBase (.Name x p) "append" X.env (eval (.Name x p) X.env) = eval (.Name x p) X.env := by rfl)
    (hfew : ((backTo pos (starEach [a] X.env)).all (fun x => !x.1) && (backToKw pos (keywordEach [] X.env)).all (fun x => x.1.isSome)
      && decide ([a].length + ([] : List Keyword).length + (if ([] : List Keyword).isEmpty then 0 else 1) < 30)) = true := by rfl)
    (hline : (pa.endLine == pos.line) = true := by rfl) (hs : starEach [a] X.env = (false, eval a X.env) :: starEach [] X.env := by rfl) (hplain : (backTo pos (starEach [] X.env)).any (·.1) = false := by rfl)
    (hsw : swapsWith (.Call (.Attribute (.Name x p) "append" pa) [a] [] pos) none pos2.line X.env = pure false := by rfl) : SSt X C (.Expr (.Call (.Attribute (.Name x p) "append" pa) [a] [] pos) pos2) (tDrop (tBM X.K "list" rAppend (tVar i) (tCons ta tNil))) (sAppend i ma) :=
  ⟨ps_expr (pe_app i ha hN hv hd hcd hbase hfew hline hs hplain) hsw, es_append ha.ev⟩
theorem ss_appN (i : Nat) {x : Str} {pa pos2 : Pos} (ha : SE X C a ta ma) (hN : X.N[i]? = some x := by rfl) (hv : Vis X.env.scope x := by first | exact Or.inl rfl | exact Or.inr (Or.inl rfl) | exact Or.inr (Or.inr rfl)) (hd : (x == ("__debug__" : Str)) = false := by decide) (hcd : (x == ("__classdict__" : Str)) = false := by decide)
    (hbase : attributeBase (.Name x p) "append" X.env (eval (.Name x p) X.env) = eval (.Name x p) X.env := by rfl)
    (hfew : ((backTo pos (starEach [a] X.env)).all (fun x => !x.1) && (backToKw pos (keywordEach [] X.env)).all (fun x => x.1.isSome)
      && decide ([a].length + ([] : List Keyword).length + (if ([] : List Keyword).isEmpty then 0 else 1) < 30)) = true := by rfl)
    (hline : (pa.endLine == pos.line) = true := by rfl) (hs : starEach [a] X.env = (false, eval a X.env) :: starEach [] X.env := by rfl) (hplain : (backTo pos (starEach [] X.env)).any (·.1) = false := by rfl)
    (hsw : swapsWith (.Call (.Attribute (.Name x p) "append" pa) [a] [] pos) none pos2.line X.env = pure false := by rfl) : SSt X C (.Expr (.Call (.Attribute (.Name x p) "append" pa) [a] [] pos) pos2) (tDrop (tBM X.K "list" rAppend (tVar i) (tCons ta tNil))) (sAppendN i ma) :=
  ⟨ps_expr (pe_app i ha hN hv hd hcd hbase hfew hline hs hplain) hsw, es_appendN ha.ev⟩
theorem ss_extend (i : Nat) {x : Str} {pa pos2 : Pos} (ha : SE X C a ta ma) (hN : X.N[i]? = some x := by rfl) (hv : Vis X.env.scope x := by first | exact Or.inl rfl | exact Or.inr (Or.inl rfl) | exact Or.inr (Or.inr rfl)) (hd : (x == ("__debug__" : Str)) = false := by decide) (hcd : (x == ("__classdict__" : Str)) = false := by decide)
    (hbase : attributeBase (.Name x p) "extend" X.env (eval (.Name x p) X.env) = eval (.Name x p) X.env := by rfl)
    (hfew : ((backTo pos (starEach [a] X.env)).all (fun x => !x.1) && (backToKw pos (keywordEach [] X.env)).all (fun x => x.1.isSome)
      && decide ([a].length + ([] : List Keyword).length + (if ([] : List Keyword).isEmpty then 0 else 1) < 30)) = true := by rfl)
    (hline : (pa.endLine == pos.line) = true := by rfl) (hs : starEach [a] X.env = (false, eval a X.env) :: starEach [] X.env := by rfl) (hplain : (backTo pos (starEach [] X.env)).any (·.1) = false := by rfl)
    (hsw : swapsWith (.Call (.Attribute (.Name x p) "extend" pa) [a] [] pos) none pos2.line X.env = pure false := by rfl) : SSt X C (.Expr (.Call (.Attribute (.Name x p) "extend" pa) [a] [] pos) pos2) (tDrop (tBM X.K "list" (rExtendS X.K) (tVar i) (tCons ta tNil))) (sExtend i ma) :=
  ⟨ps_expr (pe_bm PySem.F.plainAttrs_list PySem.F.slot_list_extend PySem.F.type_list_extend mt_extendS (pv i hN hv hd hcd) (pa_cons ha.pe pa_nil hs) hbase hfew hline hs hplain) hsw, es_extend ha.ev⟩
theorem ss_reverse (i : Nat) {x : Str} {pa pos2 : Pos} (hN : X.N[i]? = some x := by rfl) (hv : Vis X.env.scope x := by first | exact Or.inl rfl | exact Or.inr (Or.inl rfl) | exact Or.inr (Or.inr rfl)) (hd : (x == ("__debug__" : Str)) = false := by decide) (hcd : (x == ("__classdict__" : Str)) = false := by decide)
    (hbase : attributeBase (.Name x p) "reverse" X.env (eval (.Name x p) X.env) = eval (.Name x p) X.env := by rfl) (hline : (pa.endLine == pos.line) = true := by rfl)
    (hsw : swapsWith (.Call (.Attribute (.Name x p) "reverse" pa) [] [] pos) none pos2.line X.env = pure false := by rfl) : SSt X C (.Expr (.Call (.Attribute (.Name x p) "reverse" pa) [] [] pos) pos2) (tDrop (tBM0 X.K "list" rReverse (tVar i))) (sReverse i) :=
  ⟨ps_expr (pe_bm0 PySem.F.plainAttrs_list PySem.F.slot_list_reverse PySem.F.type_list_reverse mt_reverse (pv i hN hv hd hcd) hbase hline) hsw, es_reverse⟩
theorem ss_clear (i : Nat) {x : Str} {pa pos2 : Pos} (hN : X.N[i]? = some x := by rfl) (hv : Vis X.env.scope x := by first | exact Or.inl rfl | exact Or.inr (Or.inl rfl) | exact Or.inr (Or.inr rfl)) (hd : (x == ("__debug__" : Str)) = false := by decide) (hcd : (x == ("__classdict__" : Str)) = false := by decide)
    (hbase : attributeBase (.Name x p) "clear" X.env (eval (.Name x p) X.env) = eval (.Name x p) X.env := by rfl) (hline : (pa.endLine == pos.line) = true := by rfl)
    (hsw : swapsWith (.Call (.Attribute (.Name x p) "clear" pa) [] [] pos) none pos2.line X.env = pure false := by rfl) : SSt X C (.Expr (.Call (.Attribute (.Name x p) "clear" pa) [] [] pos) pos2) (tDrop (tBM0 X.K "list" rClear (tVar i))) (sClear i) :=
  ⟨ps_expr (pe_bm0 PySem.F.plainAttrs_list PySem.F.slot_list_clear PySem.F.type_list_clear mt_clear (pv i hN hv hd hcd) hbase hline) hsw, es_clear⟩
theorem ss_pop (i : Nat) {x : Str} {pa pos2 : Pos} (hN : X.N[i]? = some x := by rfl) (hv : Vis X.env.scope x := by first | exact Or.inl rfl | exact Or.inr (Or.inl rfl) | exact Or.inr (Or.inr rfl)) (hd : (x == ("__debug__" : Str)) = false := by decide) (hcd : (x == ("__classdict__" : Str)) = false := by decide)
    (hbase : attributeBase (.Name x p) "pop" X.env (eval (.Name x p) X.env) = eval (.Name x p) X.env := by rfl) (hline : (pa.endLine == pos.line) = true := by rfl)
    (hsw : swapsWith (.Call (.Attribute (.Name x p) "pop" pa) [] [] pos) none pos2.line X.env = pure false := by rfl) : SSt X C (.Expr (.Call (.Attribute (.Name x p) "pop" pa) [] [] pos) pos2) (tDrop (tBM0 X.K "list" rPop (tVar i))) (sPopDrop i) :=
  ⟨ps_expr (pe_bm0 PySem.F.plainAttrs_list PySem.F.slot_list_pop PySem.F.type_list_pop mt_pop (pv i hN hv hd hcd) hbase hline) hsw, es_popDrop⟩
/-- y = x.pop() -/
theorem ss_popTo (i j : Nat) {x y : Str} {pa pos2 py : Pos} (hN : X.N[i]? = some x := by rfl) (hv : Vis X.env.scope x := by first | exact Or.inl rfl | exact Or.inr (Or.inl rfl) | exact Or.inr (Or.inr rfl)) (hd : (x == ("__debug__" : Str)) = false := by decide) (hcd : (x == ("__classdict__" : Str)) = false := by decide)
    (hbase : attributeBase (.Name x p) "pop" X.env (eval (.Name x p) X.env) = eval (.Name x p) X.env := by rfl) (hline : (pa.endLine == pos.line) = true := by rfl)
    (hs : swapsWith (.Call (.Attribute (.Name x p) "pop" pa) [] [] pos) (some (.Name y py)) pos2.line X.env = pure false := by rfl) (hNd : X.N.Nodup := by assumption) (hi : X.N[j]? = some y := by rfl) (hx : Loc X.env.scope y := by first | exact .inl rfl | exact .inr rfl)
    (hf : X.fn y = true ∨ X.env.scope.names.lookup y = some .local := by first | exact .inr rfl | exact .inl rfl) : SSt X C (.Assign [.Name y py] (.Call (.Attribute (.Name x p) "pop" pa) [] [] pos) pos2) (tAsg (tBM0 X.K "list" rPop (tVar i)) (gName j)) (sPopTo i j) :=
  ⟨ps_set hNd hi hx (pe_bm0 PySem.F.plainAttrs_list PySem.F.slot_list_pop PySem.F.type_list_pop mt_pop (pv i hN hv hd hcd) hbase hline) hs hf, es_popTo⟩
/-- x = {}; x[b] = a in a dict of the slot's own -/
theorem ss_ownD0 (i : Nat) {x : Str} {pos2 : Pos} (hs2 : swapsWith (.Dict [] [] p) (some (.Name x pos)) pos2.line X.env = pure false := by rfl) (hN : X.N.Nodup := by assumption) (hi : X.N[i]? = some x := by rfl) (hx : Loc X.env.scope x := by first | exact .inl rfl | exact .inr rfl)
    (hf : X.fn x = true ∨ X.env.scope.names.lookup x = some .local := by first | exact .inr rfl | exact .inl rfl) : SSt X C (.Assign [.Name x pos] (.Dict [] [] p) pos2) (tAsg tDNewK (gName i)) (sOwnD i (eC (.dct []))) := ⟨ps_set hN hi hx pe_dnewK hs2 hf, es_ownD efd_nil⟩
theorem ss_putD (i : Nat) {x : Str} {p2 : Pos} (F : Fr X C) (ha : SE X C a ta ma) (hb : SE X C b tb mb) (hN : X.N[i]? = some x := by rfl) (hv : Vis X.env.scope x := by first | exact Or.inl rfl | exact Or.inr (Or.inl rfl) | exact Or.inr (Or.inr rfl)) (hd : (x == ("__debug__" : Str)) = false := by decide)
    (hcd : (x == ("__classdict__" : Str)) = false := by decide) (hs : swapsWith a (some (.Subscript (.Name x p) b p2)) pos.line X.env = pure false := by rfl) : SSt X C (.Assign [.Subscript (.Name x p) b p2] a pos) (sDPut (tVar i) tb ta) (sOnD i (sPutD i mb ma)) :=
  ⟨ps_dput F.u1 (pv i hN hv hd hcd) hb.pe ha.pe hs, es_putD ha.ev hb.ev⟩
theorem ss_putDN (i : Nat) {x : Str} {p2 : Pos} (F : Fr X C) (ha : SE X C a ta ma) (hb : SE X C b tb mb) (hN : X.N[i]? = some x := by rfl) (hv : Vis X.env.scope x := by first | exact Or.inl rfl | exact Or.inr (Or.inl rfl) | exact Or.inr (Or.inr rfl)) (hd : (x == ("__debug__" : Str)) = false := by decide)
    (hcd : (x == ("__classdict__" : Str)) = false := by decide) (hs : swapsWith a (some (.Subscript (.Name x p) b p2)) pos.line X.env = pure false := by rfl) : SSt X C (.Assign [.Subscript (.Name x p) b p2] a pos) (sDPut (tVar i) tb ta) (sOnD i (sPutDN i mb ma)) :=
  ⟨ps_dput F.u1 (pv i hN hv hd hcd) hb.pe ha.pe hs, es_putDN ha.ev hb.ev⟩
theorem ss_freezeD (i : Nat) (r : SSs X C rest u n) : SSs X C rest u (sSeq (sFreezeD i) n) := ⟨r.ps, es_freezeD r.ev⟩
end

/-! ### defs -/
theorem so_start {K : PySem.W.Frag} {me : V} {N H : Hp} : ∀ {vs : List V} {xs : List Val} {n : Nat}, RVs K N vs xs → SO K me N H (vs.map some ++ List.replicate n none) (xs.map Slot.sh ++ List.replicate n Slot.un) []
  | _, _, 0, .nil => .nil
  | _, _, n + 1, .nil => SO.cons (f := []) (fs := []) (.un none) (so_start (n := n) .nil)
  | _, _, n, .cons h r => SO.cons (f := []) (fs := []) (.sh h) (so_start r)
abbrev FX (P : Program) (w : World) (K : PySem.W.Frag) (mg : Str → Option Value) (base : Heap) (N : List Str) (qual : Str) (scope : Scope) (f : Addr) (cd : Value) (A : Around) (outer : List PySem.Env) (s : Shared) (H : Hp) (E : XK) : Cx := cxOf (L2.CX P w) P w K mg base N qual scope f cd A outer s H E
/-- a def: its body's steps, whatever is wanted of an exception -/
def Body (P : Program) (w : World) (K : PySem.W.Frag) (mg : Str → Option Value) (base : Heap) (XR : XRel) (j : Nat) (N : List Str) (qual : Str) (scope : Scope) (body : List Stmt) (m : ST) : Prop :=
  ∀ (f : Addr) (cd : Value) (A : Around) (outer : List PySem.Env) (s : Shared) (H : Hp) (E : XK) (W : WX), let X := FX P w K mg base N qual scope f cd A outer s H E
    Takes X W → Fr X ⟨XR, some W⟩ → Room j X.A → ∃ t, SSs X ⟨XR, some W⟩ body t m
theorem defn_ne {k n : Nat} {m : ST} {xs : List Val} (h : defn k n m xs ≠ .bad) : xs.length = k := by
  unfold defn at h
  split at h
  · assumption
  · exact absurd rfl h
section
variable {P : Program} {w : World} {K : PySem.W.Frag} {mg : Str → Option Value} {base : Heap} {XR : XRel}
theorem fn_ok {x qual : Str} {params : Arguments} {body : List Stmt} {scope : Scope} {dvs : List V} {kws : List (Str × V)} {f : Addr} {fd : FuncData} {N ps : List Str} {j k n : Nat} {m : ST} (F : FunD K x qual params body scope dvs kws f fd) (S : FnScope N ps scope)
    (hk : ps.length = k) (hn : N.length = n) (hb : Body P w K mg base XR j N qual scope body m) : FnOk P w K mg base (L2.CX P w) (j + 1) f fd ps (spF K XR k (defn k n m)) := by
  refine F.ok S (fun vs H Q E h => ?_) (fun cdv A outer s H vs Q E hr h => ?_)
  · obtain ⟨N0, xs, _, r, hl, _⟩ := h
    rw [r.length, hl, hk]
  · have tk : Takes (FX P w K mg base N qual scope f cdv A outer s H E) (fun cls d _ H => E cls d H) := takes_of rfl rfl rfl rfl
    obtain ⟨t, h1, h2⟩ := hb f cdv A outer s H E _ tk ⟨hr.units, rfl, Lets.of tk, passes_of rfl⟩ hr
    refine ⟨t, h1, ?_⟩
    obtain ⟨N0, xs, e, r, hl, q⟩ := h
    have hst : SO K .non N0 H (L2.start N vs) (startE n xs) [] := by
      unfold L2.start startE
      rw [hn, r.length]
      exact so_start r
    refine h2 ⟨N0, H, fun _ => none, .non⟩ N0 H _ _ [] ⟨Gr.refl e, (fun a o q => nomatch q), (fun a ha => by cases ha), List.nodup_nil, hst⟩ _ ?_
    unfold defn at q
    rw [if_pos hl] at q
    cases hm : m (startE n xs) with
    | next e => rw [hm] at q; exact fun M H' σ fs S' => q M H' S'.g _ .non
    | ret x e => rw [hm] at q; exact fun M' N' H' v σ fs _ _ _ g rv => q N' H' g v rv
    | exc z e =>
      rw [hm] at q
      exact ⟨_, rfl, fun cls d M H' σ fs S' hx => q cls d M H' S'.g hx⟩
    | brk e => rw [hm] at q; exact q.elim
    | cont e => rw [hm] at q; exact q.elim
    | bad => rw [hm] at q; exact q.elim
theorem cal_of {x qual : Str} {params : Arguments} {body : List Stmt} {scope : Scope} {f : Addr} {fd : FuncData} {N ps : List Str} {j k n : Nat} {m : ST} (F : FunD K x qual params body scope [] [] f fd) (gm : mg x = some (.ref f)) (S : FnScope N ps scope)
    (hb : ∀ (kV doc pm : Value) (an : Option Addr) (cdv ct : Value) (us : List Value), us.length = ps.length → bindArgs (PySem.W.fnOf x qual params body scope .none kV doc pm an cdv ct) ⟨us, []⟩ = pure (ps.zip us))
    (hk : ps.length = k) (hn : N.length = n) (h : Body P w K mg base XR j N qual scope body m) : Cal P w K mg base XR x (j + 1) k (defn k n m) :=
  ⟨⟨f, fd, ps, fn_ok F S hk hn h, gm, F.kp, F.bindsN hb⟩, fun _ => defn_ne⟩
end
end Vm

/-! The value machine over HandS: a law's end. -/
namespace Vm
open PySem L2 PyProof.Rows
def spLaw (sp : Sp) : Sp := fun vs H Q E => sp vs H Q E ∧ E = fun _ _ _ => False
theorem FnOk.to0 {P : Program} {w : World} {K : PySem.W.Frag} {mg : Str → Option Value} {base : Heap} {k : Nat} {f : Addr} {fd : FuncData} {ps : List Str} {sp : Sp} (F : FnOk P w K mg base (L2.CX P w) k f fd ps sp) : FnOk P w K mg base CX0 k f fd ps (spLaw sp) :=
  ⟨fun vs H Q E h => F.len vs H Q E h.1, fun A outer s H args us vs Q E hr he hb hv h => by
    obtain ⟨h1, rfl⟩ := h
    refine codeAny_mono (F.run A outer s H args us vs Q _ hr he hb hv h1) fun r s' hq => ?_
    cases r with
    | error e =>
      obtain ⟨_, _, _, _, _, _, _, _, _, _, _, _, z⟩ := hq
      exact z.elim
    | ok fl => cases fl <;> exact hq⟩
theorem law_sp {K : PySem.W.Frag} {XR : XRel} {f : Fn} {ns : List Int} (pure : f [.lst (ns.map Val.int)] = .ret (.bl true)) {H : Hp} {a : Addr} (hS : SqL K H a (ns.map V.int)) : spLaw (spF K XR 1 f) [.ref a] H (fun v _ => v = .bl true) fun _ _ _ => False := by
  refine ⟨⟨H, [.lst (ns.map Val.int)], fun _ _ q => q, .cons (.lst hS ?_) .nil, rfl, ?_⟩, rfl⟩
  · induction ns with
    | nil => exact .nil
    | cons n ns ih =>
      exact .cons (.int n) (by
        clear ih pure hS
        induction ns with
        | nil => exact .nil
        | cons m ms ih => exact .cons (.int m) ih)
  · rw [pure]
    intro N' H' g v rv
    cases rv
    rfl
/-- a tuple of the module -/
theorem RVs.ofB {K : PySem.W.Frag} {N : Hp} : ∀ {ds : List He.Dv} {xs : List Val}, (ds.zip xs).all (fun q => match q.1, q.2 with
    | .non, .non => true
    | .bl b, .bl c => b == c
    | .int i, .int j => i == j
    | .str x, .str y => decide (x = y)
    | _, _ => false) = true → ds.length = xs.length → RVs K N (ds.map (He.Dv.v K)) xs
  | [], [], _, _ => .nil
  | [], _ :: _, _, h => by cases h
  | _ :: _, [], _, h => by cases h
  | d :: ds, x :: xs, h, hl => by
    rw [List.zip_cons_cons, List.all_cons, Bool.and_eq_true] at h
    obtain ⟨h1, h2⟩ := h
    refine .cons ?_ (RVs.ofB h2 (Nat.succ.inj hl))
    cases d <;> cases x <;> simp at h1 <;> first
      | exact .non
      | (subst h1; exact .bl _)
      | (subst h1; exact .int _)
      | (subst h1; exact .str _)
end Vm

/-! The value machine over HandS: what the module's text writes. -/
namespace Vm
open PySem L2 PyProof.Rows
/-- the Value stands for the Val in the written part -/
def vOf : Value → V
  | .bool b => .bl b
  | .int i _ => .int i
  | .str x _ => .str x
  | .ref a => .ref a
  | _ => .non
mutual
def valB (K : PySem.W.Frag) : Val → Value → Bool
  | .non, .none => true
  | .bl b, .bool c => b == c
  | .int i, .int j _ => decide (i = j)
  | .str x, .str y _ => decide (x = y)
  | .tup xs, .ref a => (match K.lookup a with
    | some ⟨.type c, _, .seq its _, _⟩ => decide (c = "tuple") && (decide (its.size ≤ sizeLine) && valsB K xs its.toList)
    | _ => false)
  | .lst xs, .ref a => (match K.lookup a with
    | some ⟨.type c, none, .seq its _, _⟩ => decide (c = "list") && (decide (its.size ≤ sizeLine) && valsB K xs its.toList)
    | _ => false)
  | _, _ => false
def valsB (K : PySem.W.Frag) : List Val → List Value → Bool
  | [], [] => true
  | x :: xs, u :: us => valB K x u && valsB K xs us
  | _, _ => false
end
mutual
theorem valB_ok {K : PySem.W.Frag} : ∀ (x : Val) (u : Value), valB K x u = true → RelV (vOf u) u ∧ ∀ N, RV K N (vOf u) x
  | .non, .none, _ => ⟨rfl, fun _ => .non⟩
  | .bl b, .bool c, h => by
    have h : (b == c) = true := h
    rw [beq_iff_eq] at h
    subst h
    exact ⟨rfl, fun _ => .bl b⟩
  | .int i, .int j t, h => by
    have h : i = j := of_decide_eq_true h
    subst h
    exact ⟨⟨t, rfl⟩, fun _ => .int i⟩
  | .str x, .str y t, h => by
    have h : x = y := of_decide_eq_true h
    subst h
    exact ⟨⟨t, rfl⟩, fun _ => .str x⟩
  | .tup xs, .ref a, h => by
    have h : (match K.lookup a with
      | some ⟨.type c, _, .seq its _, _⟩ => decide (c = "tuple") && (decide (its.size ≤ sizeLine) && valsB K xs its.toList)
      | _ => false) = true := h
    split at h
    · rename_i c od its n sl q
      rw [Bool.and_eq_true, Bool.and_eq_true] at h
      obtain ⟨h1, h2, h3⟩ := h
      obtain ⟨vs, hv, hr⟩ := valsB_ok xs its.toList h3
      refine ⟨rfl, fun N => .tup (vs := vs) (.inr ⟨_, its, n, q, congrArg Value.type (of_decide_eq_true h1), rfl, of_decide_eq_true h2, hv⟩) (hr N)⟩
    · cases h
  | .lst xs, .ref a, h => by
    have h : (match K.lookup a with
      | some ⟨.type c, none, .seq its _, _⟩ => decide (c = "list") && (decide (its.size ≤ sizeLine) && valsB K xs its.toList)
      | _ => false) = true := h
    split at h
    · rename_i c its n sl q
      rw [Bool.and_eq_true, Bool.and_eq_true] at h
      obtain ⟨h1, h2, h3⟩ := h
      obtain ⟨vs, hv, hr⟩ := valsB_ok xs its.toList h3
      refine ⟨rfl, fun N => .lst (vs := vs) (.inr ⟨_, its, n, q, congrArg Value.type (of_decide_eq_true h1), rfl, rfl, of_decide_eq_true h2, hv⟩) (hr N)⟩
    · cases h
  | .dct _, u, h => by cases u <;> cases h
  | .non, .bool _, h => by cases h
  | .non, .int _ _, h => by cases h
  | .non, .str _ _, h => by cases h
  | .non, .ref _, h => by cases h
  | .bl _, .none, h => by cases h
  | .bl _, .int _ _, h => by cases h
  | .bl _, .str _ _, h => by cases h
  | .bl _, .ref _, h => by cases h
  | .int _, .none, h => by cases h
  | .int _, .bool _, h => by cases h
  | .int _, .str _ _, h => by cases h
  | .int _, .ref _, h => by cases h
  | .str _, .none, h => by cases h
  | .str _, .bool _, h => by cases h
  | .str _, .int _ _, h => by cases h
  | .str _, .ref _, h => by cases h
  | .tup _, .none, h => by cases h
  | .lst _, .none, h => by cases h
theorem valsB_ok {K : PySem.W.Frag} : ∀ (xs : List Val) (us : List Value), valsB K xs us = true → ∃ vs, Vals vs us ∧ ∀ N, RVs K N vs xs
  | [], [], _ => ⟨[], .nil, fun _ => .nil⟩
  | [], _ :: _, h => by cases h
  | _ :: _, [], h => by cases h
  | x :: xs, u :: us, h => by
    have h : (valB K x u && valsB K xs us) = true := h
    rw [Bool.and_eq_true] at h
    obtain ⟨h1, h2⟩ := valB_ok x u h.1
    obtain ⟨vs, h3, h4⟩ := valsB_ok xs us h.2
    exact ⟨vOf u :: vs, .cons h1 h3, fun N => .cons (h2 N) (h4 N)⟩
end
/-- a name of the module -/
def gU (K : PySem.W.Frag) (x : Str) : Value := match PySem.W.nsIn K mainGlobals x with
  | some (some u) => u
  | _ => .none
def gB (K : PySem.W.Frag) (x : Str) (z : Val) : Bool := match PySem.W.nsIn K mainGlobals x with
  | some (some u) => valB K z u
  | _ => false
def GV (K : PySem.W.Frag) (mg : Str → Option Value) (x : Str) (z : Val) : Prop := mg x = some (gU K x) ∧ RelV (vOf (gU K x)) (gU K x) ∧ ∀ N, RV K N (vOf (gU K x)) z
theorem gB_ok {K : PySem.W.Frag} {h : Heap} {mg : Str → Option Value} (X : K.In h) (G : h.Ns mainGlobals mg) {x : Str} {z : Val} (c : gB K x z = true) : GV K mg x z := by
  unfold gB at c
  cases q : PySem.W.nsIn K mainGlobals x with
  | none => rw [q] at c; cases c
  | some r =>
    rw [q] at c
    cases r with
    | none => cases c
    | some u =>
      have e : gU K x = u := by unfold gU; rw [q]
      unfold GV
      rw [e]
      obtain ⟨h1, h2⟩ := valB_ok z u c
      exact ⟨PySem.W.mg_of X G q, h1, h2⟩

/-! ### a dict of the module, its keys texts -/
def entB (K : PySem.W.Frag) : List (Str × Val) → List DictEntry → Bool
  | [], [] => true
  | (k, z) :: t, e :: es => (match e.key with
    | .str x _ => decide (x = k)
    | _ => false) && (valB K z e.val && entB K t es)
  | _, _ => false
def dicB (K : PySem.W.Frag) (a : Addr) (tab : List (Str × Val)) : Bool := match K.lookup a with
  | some ⟨_, _, .dict es _, _⟩ => entB K tab es.toList
  | _ => false
structure KD (K : PySem.W.Frag) (w : World) (a : Addr) (tab : List (Str × Val)) : Prop where
  d : ∃ es n, KDict K w a es n
  get : ∀ z, match tab.lookup z with
    | some x => ∃ u, PySem.W.nsIn K a z = some (some u) ∧ valB K x u = true
    | none => PySem.W.nsIn K a z = some none
theorem entB_ok {K : PySem.W.Frag} : ∀ {tab : List (Str × Val)} {es : List DictEntry}, entB K tab es = true → (es.any (·.refKey) = false) ∧ ∀ z, match tab.lookup z with
    | some x => ∃ e, es.find? (·.key.isStr z) = some e ∧ valB K x e.val = true
    | none => es.find? (·.key.isStr z) = none
  | [], [], _ => ⟨rfl, fun z => rfl⟩
  | [], _ :: _, h => by cases h
  | _ :: _, [], h => by cases h
  | (k, x) :: t, e :: es, h => by
    have h : ((match e.key with
      | .str x _ => decide (x = k)
      | _ => false) && (valB K x e.val && entB K t es)) = true := h
    rw [Bool.and_eq_true, Bool.and_eq_true] at h
    obtain ⟨h1, h2, h3⟩ := h
    obtain ⟨q1, q2⟩ := entB_ok h3
    split at h1
    · rename_i y ty hy
      have hk : y = k := of_decide_eq_true h1
      subst hk
      have hr : e.refKey = false := by unfold DictEntry.refKey; rw [hy]
      refine ⟨by rw [List.any_cons, hr, q1]; rfl, fun z => ?_⟩
      have hs : e.key.isStr z = decide (y = z) := by
        rw [hy]
        show (y == z) = decide (y = z)
        rw [Bool.eq_iff_iff]; simp
      rw [List.lookup_cons, List.find?_cons, hs]
      by_cases hz : y = z
      · subst hz
        simp only [beq_self_eq_true, decide_true]
        exact ⟨e, rfl, h2⟩
      · have hz2 : (z == y) = false := by rw [beq_eq_false_iff_ne]; exact fun q => hz q.symm
        simp only [hz2, hz, decide_false]
        exact q2 z
    · cases h1
theorem kd_of {K : PySem.W.Frag} {w : World} {a : Addr} {tab : List (Str × Val)} (h : ∃ es n, KDict K w a es n) (c : dicB K a tab = true) : KD K w a tab := by
  obtain ⟨es, n, kd⟩ := h
  refine ⟨⟨es, n, kd⟩, fun z => ?_⟩
  unfold dicB at c
  rw [kd.at_] at c
  obtain ⟨h1, h2⟩ := entB_ok (show entB K tab es.toList = true from c)
  have h2 := h2 z
  unfold PySem.W.nsIn
  rw [kd.at_]
  cases hl : tab.lookup z with
  | none =>
    rw [hl] at h2
    simp only at h2 ⊢
    rw [h2, h1]
    rfl
  | some x =>
    rw [hl] at h2
    obtain ⟨e, he, hv⟩ := h2
    simp only
    rw [he]
    exact ⟨e.val, rfl, hv⟩
theorem nx_kget {tab : List (Str × Val)} (x : Val) : NX (vKGet tab x) := by unfold vKGet; split <;> first | exact nx_ofOpt | exact nx_bad
theorem nx_kin {tab : List (Str × Val)} (x : Val) : NX (vKIn tab x) := by unfold vKIn; split <;> first | exact nx_ok | exact nx_bad
theorem nx_kni {tab : List (Str × Val)} (x : Val) : NX (vKNi tab x) := by unfold vKNi; split <;> first | exact nx_ok | exact nx_bad
def rKIn (K : PySem.W.Frag) (w : World) (b : Bool) : R2 := fun x y H Q => ∃ p z es n, y = .ref p ∧ x = .str z ∧ KDict K w p es n ∧ ((∃ u, PySem.W.nsIn K p z = some (some u) ∧ Q (.bl b) H) ∨ (PySem.W.nsIn K p z = some none ∧ Q (.bl (!b)) H))
theorem op_kin {X : Cx} : OpR X (compareOp .In) (rKIn X.K X.w true) := by
  intro pins s σ H x y v u Q I rx ry h
  obtain ⟨p, z, es, n, rfl, rfl, kd, h⟩ := h
  obtain rfl : u = Value.ref p := ry
  obtain ⟨t, rfl⟩ := rx
  have hm' := PySem.W.mapOf_K (prog := X.prog) (w := X.w) I.kIn kd.at_ kd.lit
  refine wpAny_in_of (strKind_is X.prog X.w z t) kd.low hm' ?_
  rcases h with ⟨u0, e, q⟩ | ⟨e, q⟩
  · rw [PySem.W.find_K kd.at_ e]
    exact ⟨.bl true, H, I.tok _, rfl, q⟩
  · rw [PySem.W.find_K kd.at_ e]
    exact ⟨.bl false, H, I.tok _, rfl, q⟩
theorem op_kni {X : Cx} : OpR X (compareOp .NotIn) (rKIn X.K X.w false) := by
  intro pins s σ H x y v u Q I rx ry h
  obtain ⟨p, z, es, n, rfl, rfl, kd, h⟩ := h
  obtain rfl : u = Value.ref p := ry
  obtain ⟨t, rfl⟩ := rx
  have hm' := PySem.W.mapOf_K (prog := X.prog) (w := X.w) I.kIn kd.at_ kd.lit
  refine wpAny_notIn_of (strKind_is X.prog X.w z t) kd.low hm' ?_
  rcases h with ⟨u0, e, q⟩ | ⟨e, q⟩
  · rw [PySem.W.find_K kd.at_ e]
    exact ⟨.bl false, H, I.tok _, rfl, q⟩
  · rw [PySem.W.find_K kd.at_ e]
    exact ⟨.bl true, H, I.tok _, rfl, q⟩
section
variable {K : PySem.W.Frag} {w : World} {C : Cn} {a : Addr} {tab : List (Str × Val)} {tb : TE} {mb : EX}
theorem ev_kget (kd : KD K w a tab) (hb : EvE K C tb mb) : EvE K C (tOp (rIxD K w) (tC (.ref a)) tb) (e1 (vKGet tab) mb) := fun N H σ env e s Q h => by
  refine hb N H σ env e s _ (PostR.imp (PostR.bind h) fun x N1 H1 g1 h1 v rv => ?_)
  cases rv with
  | str z =>
    obtain ⟨y, hy, k⟩ := h1.val (nx_kget _)
    have hy : Res.ofOpt (tab.lookup z) = .ok y := hy
    have g := kd.get z
    cases hl : tab.lookup z with
    | none => rw [hl] at hy; cases hy
    | some x =>
      rw [hl] at hy g
      cases hy
      obtain ⟨u, hu, hv⟩ := g
      obtain ⟨r1, r2⟩ := valB_ok _ u hv
      obtain ⟨es, n, kd'⟩ := kd.d
      exact ⟨a, z, vOf u, rfl, rfl, ⟨es, n, u, kd'.at_, kd'.lit, hu, r1⟩, k N1 H1 (Gr.refl g1.nh) _ (r2 N1)⟩
  | _ => exact h1.elim
theorem ev_kin (kd : KD K w a tab) (hb : EvE K C tb mb) : EvE K C (tOp (rKIn K w true) tb (tC (.ref a))) (e1 (vKIn tab) mb) := fun N H σ env e s Q h => by
  refine hb N H σ env e s _ (PostR.imp (PostR.bind h) fun x N1 H1 g1 h1 v rv => ?_)
  cases rv with
  | str z =>
    obtain ⟨y, hy, k⟩ := h1.val (nx_kin _)
    have hy : Res.ok (Val.bl (tab.lookup z).isSome) = .ok y := hy
    have g := kd.get z
    obtain ⟨es, n, kd'⟩ := kd.d
    refine ⟨a, z, es, n, rfl, rfl, kd', ?_⟩
    cases hl : tab.lookup z with
    | none =>
      rw [hl] at hy g
      cases hy
      exact .inr ⟨g, k N1 H1 (Gr.refl g1.nh) _ (.bl _)⟩
    | some x =>
      rw [hl] at hy g
      cases hy
      obtain ⟨u, hu, hv⟩ := g
      exact .inl ⟨u, hu, k N1 H1 (Gr.refl g1.nh) _ (.bl _)⟩
  | _ => exact h1.elim
theorem ev_kni (kd : KD K w a tab) (hb : EvE K C tb mb) : EvE K C (tOp (rKIn K w false) tb (tC (.ref a))) (e1 (vKNi tab) mb) := fun N H σ env e s Q h => by
  refine hb N H σ env e s _ (PostR.imp (PostR.bind h) fun x N1 H1 g1 h1 v rv => ?_)
  cases rv with
  | str z =>
    obtain ⟨y, hy, k⟩ := h1.val (nx_kni _)
    have hy : Res.ok (Val.bl (!(tab.lookup z).isSome)) = .ok y := hy
    have g := kd.get z
    obtain ⟨es, n, kd'⟩ := kd.d
    refine ⟨a, z, es, n, rfl, rfl, kd', ?_⟩
    cases hl : tab.lookup z with
    | none =>
      rw [hl] at hy g
      cases hy
      exact .inr ⟨g, k N1 H1 (Gr.refl g1.nh) _ (.bl _)⟩
    | some x =>
      rw [hl] at hy g
      cases hy
      obtain ⟨u, hu, hv⟩ := g
      exact .inl ⟨u, hu, k N1 H1 (Gr.refl g1.nh) _ (.bl _)⟩
  | _ => exact h1.elim
end
section
variable {X : Cx} {C : Cn} {a : Expr} {ta : TE} {ma : EX} {pos p : Pos} {tab : List (Str × Val)} {x : Str}
/-- a constant of the module -/
theorem se_gv {z : Val} (g : GV X.K X.mg x z) (hg : Gl X x := by rfl) (hd : (x == ("__debug__" : Str)) = false := by decide) : SE X C (.Name x pos) (tC (vOf (gU X.K x))) (eC z) := ⟨pe_glob hg g.1 g.2.1 hd, ev_c g.2.2⟩
/-- D[a], a in D, a not in D of a dict D of the module -/
theorem se_kget (hm : X.mg x = some (.ref (He.ga X.K x))) (kd : KD X.K X.w (He.ga X.K x) tab) (ha : SE X C a ta ma) (hg : Gl X x := by rfl) (hd : (x == ("__debug__" : Str)) = false := by decide) (hs : PlainIx a := by intro _ _; rfl) :
    SE X C (.Subscript (.Name x p) a pos) (tOp (rIxD X.K X.w) (tC (.ref (He.ga X.K x))) ta) (e1 (vKGet tab) ma) := ⟨pe_ix ix_kdict (pe_glob hg hm rfl hd) ha.pe hs, ev_kget kd ha.ev⟩
theorem se_kin (hm : X.mg x = some (.ref (He.ga X.K x))) (kd : KD X.K X.w (He.ga X.K x) tab) (ha : SE X C a ta ma) (hg : Gl X x := by rfl) (hd : (x == ("__debug__" : Str)) = false := by decide) (hmk : behindInMarks .In (.Name x p) = false := by rfl) :
    SE X C (.Compare a [.In] [.Name x p] pos) (tOp (rKIn X.K X.w true) ta (tC (.ref (He.ga X.K x)))) (e1 (vKIn tab) ma) := ⟨pe_cmpR op_kin ha.pe (pe_glob hg hm rfl hd) hmk, ev_kin kd ha.ev⟩
theorem se_kni (hm : X.mg x = some (.ref (He.ga X.K x))) (kd : KD X.K X.w (He.ga X.K x) tab) (ha : SE X C a ta ma) (hg : Gl X x := by rfl) (hd : (x == ("__debug__" : Str)) = false := by decide) (hmk : behindInMarks .NotIn (.Name x p) = false := by rfl) :
    SE X C (.Compare a [.NotIn] [.Name x p] pos) (tOp (rKIn X.K X.w false) ta (tC (.ref (He.ga X.K x)))) (e1 (vKNi tab) ma) := ⟨pe_cmpR op_kni ha.pe (pe_glob hg hm rfl hd) hmk, ev_kni kd ha.ev⟩
theorem sb_kin (hm : X.mg x = some (.ref (He.ga X.K x))) (kd : KD X.K X.w (He.ga X.K x) tab) (ha : SE X C a ta ma) (hg : Gl X x := by rfl) (hd : (x == ("__debug__" : Str)) = false := by decide) (hmk : behindInMarks .In (.Name x p) = false := by rfl) :
    SB X C (.Compare a [.In] [.Name x p] pos) (tTest (tOp (rKIn X.K X.w true) ta (tC (.ref (He.ga X.K x))))) (bVal (e1 (vKIn tab) ma)) := ⟨pt_cmpR op_kin ha.pe (pe_glob hg hm rfl hd) hmk, eb_test (ev_kin kd ha.ev)⟩
theorem sb_kni (hm : X.mg x = some (.ref (He.ga X.K x))) (kd : KD X.K X.w (He.ga X.K x) tab) (ha : SE X C a ta ma) (hg : Gl X x := by rfl) (hd : (x == ("__debug__" : Str)) = false := by decide) (hmk : behindInMarks .NotIn (.Name x p) = false := by rfl) :
    SB X C (.Compare a [.NotIn] [.Name x p] pos) (tTest (tOp (rKIn X.K X.w false) ta (tC (.ref (He.ga X.K x))))) (bVal (e1 (vKNi tab) ma)) := ⟨pt_cmpR op_kni ha.pe (pe_glob hg hm rfl hd) hmk, eb_test (ev_kni kd ha.ev)⟩
end
end Vm

/-! The value machine over HandS: raise, try. -/
namespace Vm
open PySem L2 PyProof.Rows
/-- an exception's class and fields -/
def xr (K : PySem.W.Frag) : XRel := fun H cls d q => cls = .ref (He.ga K q.cls) ∧ ((q.fs = [] ∧ d = none) ∨ (q.fs ≠ [] ∧ ∃ dd, d = some dd ∧ H dd = some (.xd (q.fs.map fun p => (p.1, toV p.2)))))
abbrev CN (K : PySem.W.Frag) : Cn := ⟨xr K, none⟩
structure XC (K : PySem.W.Frag) (mg : Str → Option Value) (x : Str) : Prop where
  g : mg x = some (.ref (He.ga K x))
  e : PySem.W.excIn K (He.ga K x) He.veBase "ValueError.__new__" = true ∧ PySem.W.keepIn K (.ref (He.ga K x)) = true ∧ PySem.W.subIn K (.ref (He.ga K x)) (.type "BaseException") = some true ∧ PySem.W.typeIn K (.ref (He.ga K x)) = some (.type "type")
theorem look_mem {β : Type} {x : Str} {b : β} : ∀ {tab : List (Str × β)}, tab.lookup x = some b → (x, b) ∈ tab
  | [], h => by cases h
  | (y, c) :: r, h => by
    rw [List.lookup_cons] at h
    split at h
    · rename_i e
      cases h
      rw [beq_iff_eq] at e
      subst e
      exact List.mem_cons_self
    · exact List.mem_cons_of_mem _ (look_mem h)
section
variable {K : PySem.W.Frag} {C : Cn} {B : Bs} {D : Ends}
theorem PostF.calmC {W W' : Option WX} {r : Flow} (h : PostF K ⟨xr K, W⟩ B D r.calm) : PostF K ⟨xr K, W'⟩ B D r := by
  cases r with
  | exc q e => exact h.elim
  | bad => exact h.elim
  | _ => exact h
theorem es_try {Wout : WX} {tb : WX → TS} {ts : Addr → Value → Option Addr → TS} {body : ST} {su : Exn → ST} {tab : List (Str × Bool)} {c : Value}
    (hx : ∀ p ∈ tab, PySem.W.exmOne K (.ref (He.ga K p.1)) c = some p.2) (hb : ∀ W, EvS K ⟨xr K, some W⟩ (tb W) body)
    (hs : ∀ q a cls d B M H σ env fs, SR K B M H σ env fs → xr K H cls d q → ∀ D, PostF K (CN K) B D (su q env) → ts a cls d D σ H) :
    EvS K ⟨xr K, some Wout⟩ (fun D σ H => tb (wOnly K c ts Wout D) D σ H) (sTry tab body su) := fun B M H σ env fs S D h => by
  refine hb (wOnly K c ts Wout D) B M H σ env fs S D ?_
  unfold sTry at h
  cases hm : body env with
  | exc q e =>
    rw [hm] at h
    refine ⟨_, rfl, fun cls d M' H' σ' fs' S' hq => ?_⟩
    have h : PostF K ⟨xr K, some Wout⟩ B D (match tab.lookup q.cls with
      | some true => (su q e).calm
      | some false => .exc q e
      | none => .bad) := h
    cases hl : tab.lookup q.cls with
    | none => rw [hl] at h; exact h.elim
    | some b =>
      rw [hl] at h
      refine ⟨b, ?_, fun hb1 a ha => ?_, fun hb1 => ?_⟩
      · rw [hq.1]; exact hx _ (look_mem hl)
      · subst hb1
        exact hs q a cls d B M' H' σ' e fs' S' hq D (PostF.calmC h)
      · subst hb1
        obtain ⟨w, e1, k⟩ := h
        cases e1
        exact k cls d M' H' σ' fs' S' hq
  | next e => rw [hm] at h; exact h
  | brk e => rw [hm] at h; exact h
  | cont e => rw [hm] at h; exact h
  | ret e => rw [hm] at h; exact h
  | bad => rw [hm] at h; exact h
theorem PostF.goneC {W W' : Option WX} {r : Flow} {i : Nat} (h : PostF K ⟨xr K, W⟩ B D (r.gone i)) : PostF K ⟨xr K, W'⟩ B { nx := fun σ' H' => D.nx (σ'.set i none) H', rt := D.rt, bk := fun σ' H' => D.bk (σ'.set i none) H', ct := fun σ' H' => D.ct (σ'.set i none) H' } r := by
  have put2 : ∀ {e : Env} {M H : Hp} {σ : L2.St} {fs : List Addr}, SR K B M H σ e fs → ∃ fs', SR K B M H (σ.set i none) (e.set i .un) fs' ∧ ∀ a ∈ fs', a ∈ fs := by
    intro e M H σ fs S
    by_cases hi : i < e.length
    · exact S.put2 hi (.un none)
    · rw [List.set_eq_of_length_le (by rw [S.sl.len]; omega), List.set_eq_of_length_le (by omega)]
      exact ⟨fs, S, fun _ h => h⟩
  have put : ∀ {e : Env} {M H : Hp} {σ : L2.St} {fs : List Addr}, SR K B M H σ e fs → ∃ fs', SR K B M H (σ.set i none) (e.set i .un) fs' := fun S => let ⟨fs', h, _⟩ := put2 S; ⟨fs', h⟩
  cases r with
  | next e =>
    intro M H σ fs S
    obtain ⟨fs', S'⟩ := put S
    exact h M H _ fs' S'
  | brk e =>
    intro M H σ fs S
    obtain ⟨fs', S'⟩ := put S
    exact h M H _ fs' S'
  | cont e =>
    intro M H σ fs S
    obtain ⟨fs', S'⟩ := put S
    exact h M H _ fs' S'
  | ret x e =>
    intro M N H v σ fs S sb hk g rv
    obtain ⟨fs', S', sub⟩ := put2 S
    exact h M N H v _ fs' S' sb (fun a ha => hk a (sub a ha)) g rv
  | exc q e => exact h.elim
  | bad => exact h.elim
theorem es_tryAs {Wout : WX} {i : Nat} {tb : WX → TS} {ts : Addr → Value → Option Addr → TS} {body : ST} {su : Exn → ST} {tab : List (Str × Bool)} {c : Value}
    (hx : ∀ p ∈ tab, PySem.W.exmOne K (.ref (He.ga K p.1)) c = some p.2) (hb : ∀ W, EvS K ⟨xr K, some W⟩ (tb W) body)
    (hs : ∀ q a cls d B M H σ env fs, SR K B M H σ env fs → σ[i]? = some (some (.ref a)) → xr K H cls d q → ∀ D, PostF K (CN K) B D (su q env) → ts a cls d D σ H) :
    EvS K ⟨xr K, some Wout⟩ (fun D σ H => tb (wAs K c i ts Wout D) D σ H) (sTryAs i tab body su) := fun B M H σ env fs S D h => by
  refine hb (wAs K c i ts Wout D) B M H σ env fs S D ?_
  unfold sTryAs at h
  cases hm : body env with
  | exc q e =>
    rw [hm] at h
    refine ⟨_, rfl, fun cls d M' H' σ' fs' S' hq => ?_⟩
    have h : PostF K ⟨xr K, some Wout⟩ B D (match tab.lookup q.cls with
      | some true => if i < e.length then (su q (e.set i .un)).gone i else .bad
      | some false => .exc q e
      | none => .bad) := h
    cases hl : tab.lookup q.cls with
    | none => rw [hl] at h; exact h.elim
    | some b =>
      rw [hl] at h
      refine ⟨b, ?_, fun hb1 a ha => ?_, fun hb1 => ?_⟩
      · rw [hq.1]; exact hx _ (look_mem hl)
      · subst hb1
        obtain ⟨hi, h⟩ := PostF.ite h
        obtain ⟨fs2, S2⟩ := S'.put hi (.un (some (.ref a)))
        exact hs q a cls d B M' H' _ _ fs2 S2 (by rw [List.getElem?_set_self (by rw [S'.sl.len]; exact hi)]) hq _ (PostF.goneC h)
      · subst hb1
        obtain ⟨w, e1, k⟩ := h
        cases e1
        exact k cls d M' H' σ' fs' S' hq
  | next e => rw [hm] at h; exact h
  | brk e => rw [hm] at h; exact h
  | cont e => rw [hm] at h; exact h
  | ret e => rw [hm] at h; exact h
  | bad => rw [hm] at h; exact h
theorem es_raise {W : WX} {q : Exn} (hq : q.fs = []) : EvS K ⟨xr K, some W⟩ (fun _ σ H => W (.ref (He.ga K q.cls)) none σ H) (sRaise q) := fun B M H σ env fs S D h => by
  obtain ⟨w, e1, k⟩ := h
  cases e1
  exact k _ _ M H σ fs S ⟨rfl, .inl ⟨hq, rfl⟩⟩
end
section
variable {X : Cx} {W : WX} {p p2 pos pos' : Pos}
theorem ss_raise {x m : Str} {j : Nat} (tk : Takes X W) (hc : X.calm = true) (c : XC X.K X.mg x) (hg : Gl X x := by rfl) (hdb : (x == ("__debug__" : Str)) = false := by decide) : SSt X ⟨xr X.K, some W⟩ (.Raise (some (.Call (.Name x p) [.Constant (.str m) j p2] [] pos)) none pos') (fun _ σ H => W (.ref (He.ga X.K x)) none σ H) (sRaise ⟨x, []⟩) :=
  ⟨ps_raise hc tk (pmk_own PySem.F.excBase_ValueError c.e.1 c.g c.e.2.1 (raises_own c.e.2.2.1 c.e.2.2.2) hg hdb), es_raise (q := ⟨x, []⟩) rfl⟩
theorem Fr.tr {W' : WX} {C : Cn} {pn : List (Addr × Obj)} {xe : Value → Shared → Prop} (F : Fr X C) (tk : Takes (X.tr pn xe) W') (pw : PassesOwn (model X.prog X.w) X.A X.env xe) : Fr (X.tr pn xe) ⟨xr X.K, some W'⟩ := ⟨F.hu, F.ca, Lets.of tk, pw⟩
/-- there is a place where the body of a try may stand -/
theorem tryable (hs : X.stack = X.env :: X.outer) (hf : X.env.frame = some X.env.locals) : ∃ xe : Value → Shared → Prop, PassesOwn (model X.prog X.w) X.A X.env xe ∧ ∀ W : WX, Takes (X.tr X.pn xe) W := by
  refine ⟨fun e s1 => wpAny (model X.prog X.w) X.A (noteFrame e X.env) (fun _ _ => True) (fun _ _ => True) s1, PassesOwn.looking, fun W u s' xx => ?_⟩
  obtain ⟨a, B, sI, pins', σ', H', cls, d, rfl, J', nb, up, sky, na, os, ag, w⟩ := xx
  have ok : X.Ok := Cx.Ok.ofTry J'.ok
  have hfr : X.A.frames = some (X.env :: X.outer) := by rw [ok.frames, hs]
  have sky' : Sky B (X.env :: X.outer) a (Zc cls d) X.env.locals s'.heap := by rw [← hs]; exact sky
  show wpAny (model X.prog X.w) X.A (noteFrame (.ref a) X.env) _ _ _
  exact wpAny_mono (Sky.land (Q := fun _ _ => True) (E₁ := fun _ _ => True) Zc.steady hfr hf sky' fun h3 fl3 up3 => trivial) (fun _ _ _ => trivial) (fun _ _ _ => trivial)
/-- try: .. except x: .. -/
theorem ss_try {x : Str} {body suite : List Stmt} {b₀ : Stmt} {np : Pos} {t2 : WX → List (Addr × Obj) → (Value → Shared → Prop) → TS} {t1 : Addr → List (Addr × Obj) → TS} {mb : ST} {su : ST} {tab : List (Str × Bool)} (F : Fr X ⟨xr X.K, some W⟩) (tk : Takes X W) {jj : Nat} (hr : Room jj X.A) (c : XC X.K X.mg x) (hx : ∀ p ∈ tab, PySem.W.exmOne X.K (.ref (He.ga X.K p.1)) (.ref (He.ga X.K x)) = some p.2)
    (hb : ∀ (W : WX) (pn : List (Addr × Obj)) (xe : Value → Shared → Prop), Takes (X.tr pn xe) W → Fr (X.tr pn xe) ⟨xr X.K, some W⟩ → Room jj (X.tr pn xe).A → SSs (X.tr pn xe) ⟨xr X.K, some W⟩ body (t2 W pn xe) mb)
    (hsu : ∀ (a : Addr) (pn : List (Addr × Obj)), SSs (X.suite a pn) (CN X.K) (b₀ :: suite) (t1 a pn) su)
    (hs : X.stack = X.env :: X.outer := by rfl) (hf : X.env.frame = some X.env.locals := by rfl) (hg : Gl X x := by rfl) (hd : (x == ("__debug__" : Str)) = false := by decide) :
    SSt X ⟨xr X.K, some W⟩ (.Try body [.ExceptHandler (some (.Name x np)) none (b₀ :: suite) pos'] [] [] pos) (fun D σ H => (fun W D σ H => ∀ pn xe, Takes (X.tr pn xe) W → Fr (X.tr pn xe) ⟨xr X.K, some W⟩ → t2 W pn xe D σ H) (wOnly X.K (.ref (He.ga X.K x)) (fun a _ _ D σ H => ∀ pn, t1 a pn D σ H) W D) D σ H) (sTry tab mb fun _ => su) :=
  ⟨ps_try_only (tb := fun W D σ H => ∀ pn xe, Takes (X.tr pn xe) W → Fr (X.tr pn xe) ⟨xr X.K, some W⟩ → t2 W pn xe D σ H) (ts := fun a _ _ D σ H => ∀ pn, t1 a pn D σ H) hs hf ⟨hg, hd, .inl c.g⟩ tk (fun W pn xe tk pw => ⟨fun pins s σ H D I h => (hb W pn xe tk (F.tr tk pw) hr).ps.run pins s σ H D I (h pn xe tk (F.tr tk pw))⟩) (fun a oe cls d pn _ _ => ⟨fun pins s σ H D I h => (hsu a _).ps.run pins s σ H D I (h _)⟩),
   es_try (tb := fun W D σ H => ∀ pn xe, Takes (X.tr pn xe) W → Fr (X.tr pn xe) ⟨xr X.K, some W⟩ → t2 W pn xe D σ H) (ts := fun a _ _ D σ H => ∀ pn, t1 a pn D σ H) hx (fun W' B M H σ env fs S D h pn xe tk' F' => (hb W' pn xe tk' F' hr).ev B M H σ env fs S D h) (fun q a cls d B M H σ env fs S _ D h pn => (hsu a pn).ev B M H σ env fs S D h)⟩
/-! ### suites that hold the exception -/
def EvEi (K : PySem.W.Frag) (C : Cn) (i : Nat) (a : Addr) (te : TE) (m : EX) : Prop := ∀ N H σ env, Sub N H → SV K N σ env → σ[i]? = some (some (V.ref a)) → ∀ Q : VK, PostR C σ N H (m env) (fun x N' H' => ∀ v, RV K N' v x → Q v H') → te σ H Q
structure SEi (X : Cx) (C : Cn) (i : Nat) (a : Addr) (e : Expr) (te : TE) (m : EX) : Prop where
  pe : PE X e te
  ev : EvEi X.K C i a te m
structure SSi (X : Cx) (C : Cn) (i : Nat) (a : Addr) (st : List Stmt) (t : TS) (m : ST) : Prop where
  ps : PSs X st t
  ev : ∀ B M H σ env fs, SR X.K B M H σ env fs → σ[i]? = some (some (.ref a)) → ∀ D, PostF X.K C B D (m env) → t D σ H
section
variable {C : Cn} {i : Nat} {a : Addr} {e e1 e2 : Expr} {te te2 : TE} {me me2 : EX} {rest : List Expr}
theorem ei_lift (h : SE X C e te me) : SEi X C i a e te me := ⟨h.pe, fun N H σ env s v _ Q k => h.ev N H σ env s v Q k⟩
theorem ei_one {op} (ha : SEi X C i a e te me) : SEi X C i a (.BoolOp op [e] pos) te me := ⟨pe_one ha.pe, ha.ev⟩
theorem ei_not (h : SEi X C i a e te me) : SEi X C i a (.UnaryOp .Not e pos) (tNotV te) (eNot me) := ⟨pe_not h.pe, fun N H σ env e s hi Q h' => by
  refine h.ev N H σ env e s hi _ (PostR.imp (PostR.bind h') fun x N1 H1 g1 h1 v rv => ?_)
  obtain ⟨k, rfl, h1⟩ := h1.asBl
  cases rv
  exact ⟨k, rfl, h1 N1 H1 (Gr.refl g1.nh) _ (.bl _)⟩⟩
theorem ei_and (ha : SEi X C i a e te me) (hb : SEi X C i a (.BoolOp .And (e2 :: rest) pos) te2 me2) : SEi X C i a (.BoolOp .And (e :: e2 :: rest) pos) (tAndV te te2) (eAnd me me2) := ⟨pe_and ha.pe hb.pe, fun N H σ env e s hi Q h => by
  refine ha.ev N H σ env e s hi _ (PostR.imp (PostR.bind h) fun x N1 H1 g1 h1 v rv => ?_)
  obtain ⟨k, rfl, h1⟩ := h1.asBl
  cases rv
  refine ⟨k, rfl, ?_⟩
  cases k with
  | true => exact hb.ev N1 H1 σ env g1.nh (s.mono g1.nn) hi Q h1
  | false => exact h1 N1 H1 (Gr.refl g1.nh) _ (.bl false)⟩
theorem ei_int (hm : X.mg "int" = none) (ha : SEi X C i a e te me) (hg : Gl X "int" := by rfl) (he : starEach [e] X.env = (false, eval e X.env) :: starEach [] X.env := by rfl) (hpl : (backTo pos (starEach [] X.env)).any (·.1) = false := by rfl) :
    SEi X C i a (.Call (.Name "int" p) [e] [] pos) (tCB rIntC (tCons te tNil)) (eArgs vInt (aCons me aNil)) := ⟨pe_callTy call_intC hg hm PySem.Pv.boot_int (pa_cons ha.pe pa_nil he) (by decide) (by decide) he hpl, fun N H σ env e s hi Q h => by
  have h : PostR C σ N H (((me env).bind fun x => .ok [x]).bind vInt) (fun x N' H' => ∀ v, RV X.K N' v x → Q v H') := h
  refine ha.ev N H σ env e s hi _ (PostR.imp (PostR.bind (by
    have e1 : (((me env).bind fun x => Res.ok [x]).bind vInt) = (me env).bind fun x => vInt [x] := by cases me env <;> rfl
    rw [e1] at h; exact h)) fun x N1 H1 g1 h1 v rv => ?_)
  exact ca_int N1 H1 g1.nh [v] [x] (.cons rv .nil) Q (h1.val (nx_int [x]))⟩
theorem ei_add (ha : SE X C e te me) (hb : SEi X C i a e2 te2 me2) : SEi X C i a (.BinOp e .Add e2 pos) (tOp (rAddV X.K) te te2) (Vm.e2 vAdd me me2) := ⟨pe_op op_addV ha.pe hb.pe, fun N H σ env e s hi Q h => by
  refine ha.ev N H σ env e s _ (PostR.imp (PostR.bind h) fun x N1 H1 g1 h1 v rv => ?_)
  refine hb.ev N1 H1 σ env g1.nh (s.mono g1.nn) hi _ (PostR.imp (PostR.bind h1) fun y N2 H2 g2 h2 w rw' => ?_)
  exact ops_add N2 H2 g2.nh v w x y (rv.mono g2.nn) rw' Q (h2.val (nx_add x y))⟩
theorem si_ret (ha : SEi X C i a e te me) : SSi X C i a [.Return (some e) pos] (tRet te) (sRet me) := ⟨pss_one (ps_ret ha.pe), fun B M H σ env fs S hi D h => by
  refine ha.ev _ H σ env (full_sub S) S.sv hi _ (post_full S h fun x N' H' _ g S' hq v rv => ?_)
  exact hq (part N' fs) N' H' v σ fs S' (fun a o q => by
    unfold part at q
    split at q
    · cases q
    · exact q) (S.kindsN g) ((full_gr S).trans g) rv⟩
/-- a name gets a value without a list -/
theorem si_setN (k : Nat) {x : Str} (ha : SEi X C i a e te me) (hs : swapsWith e (some (.Name x p)) pos.line X.env = pure false := by rfl) (hN : X.N.Nodup := by assumption) (hi : X.N[k]? = some x := by rfl) (hx : Loc X.env.scope x := by first | exact .inl rfl | exact .inr rfl)
    (hf : X.fn x = true ∨ X.env.scope.names.lookup x = some .local := by first | exact .inr rfl | exact .inl rfl) : SSi X C i a [.Assign [.Name x p] e pos] (tAsg te (gName k)) (sSetN k me) := ⟨pss_one (ps_set hN hi hx ha.pe hs hf), fun B M H σ env fs S hi D h => by
  refine ha.ev _ H σ env (full_sub S) S.sv hi _ (post_full S h fun x N' H' _ g S' hx v rv => ?_)
  obtain ⟨⟨hi, hn⟩, hx⟩ := PostF.ite hx
  obtain ⟨fs', S2⟩ := S'.putV (i := k) (RV.strip (S.kindsN g) x rv hn)
  exact hx _ H' _ fs' S2⟩
end
/-- what isinstance asks of the class of an exception -/
def excCB (K : PySem.W.Frag) (x : Str) : Bool :=
  decide (PySem.W.findIn K (.ref (He.ga K x)) "__getattribute__" = some (some (.builtin "BaseException.__getattribute__"))) && (decide (PySem.W.findIn K (.ref (He.ga K x)) "__getattr__" = some none) &&
  (decide (PySem.W.subIn K (.ref (He.ga K x)) (.type "BaseException") = some true) && (PySem.W.hasDictIn K (He.ga K x) && (decide (PySem.W.findIn K (.ref (He.ga K x)) "__class__" = some (some (.builtin "object.__class__"))) &&
  (decide (PySem.W.specialIn K (.builtin "object.__class__") "__get__" = some (some (.builtin "getset_descriptor.__get__"))) && (decide (PySem.W.takesIn K (.builtin "object.__class__") = some true) && decide (PySem.W.mroIn K (He.ga K x) (.type "object") = some true)))))))
theorem excCB_ok {K : PySem.W.Frag} {x : Str} (h : excCB K x = true) : ExcC K (He.ga K x) := by
  unfold excCB at h
  simp only [Bool.and_eq_true, decide_eq_true_eq] at h
  obtain ⟨h1, h2, h3, h4, h5, h6, h7, h8⟩ := h
  exact ⟨h1, h2, h3, h4, h5, h6, h7, h8⟩
/-- the class that isinstance names -/
def clsV (K : PySem.W.Frag) (x : Str) : Value := if x = "ValueError" then .type "ValueError" else .ref (He.ga K x)
/-- the table of isinstance(e, x) -/
structure IsT (K : PySem.W.Frag) (mg : Str → Option Value) (x : Str) (tab : List (Str × Bool)) : Prop where
  g : (x = "ValueError" ∧ mg x = none) ∨ (x ≠ "ValueError" ∧ mg x = some (.ref (He.ga K x)))
  t : ∀ p ∈ tab, ExcC K (He.ga K p.1) ∧ PySem.W.kitOne K (.ref (He.ga K p.1)) (clsV K x) = some p.2
theorem is_ok {K : PySem.W.Frag} {x : Str} {p : Str × Bool} (h : (excCB K p.1 && decide (PySem.W.kitOne K (.ref (He.ga K p.1)) (clsV K x) = some p.2)) = true) : ExcC K (He.ga K p.1) ∧ PySem.W.kitOne K (.ref (He.ga K p.1)) (clsV K x) = some p.2 := by
  rw [Bool.and_eq_true, decide_eq_true_eq] at h
  exact ⟨excCB_ok h.1, h.2⟩
/-- no dict of its own -/
theorem ei_isE {i : Nat} {a : Addr} {oe : Obj} {pn : List (Addr × Obj)} {q : Exn} {n x : Str} {tab : List (Str × Bool)} (T : IsT X.K X.mg x tab) (hz : Zc (.ref (He.ga X.K q.cls)) none oe) (hf : ∃ vs, oe.data = .fields vs) (hm : X.mg "isinstance" = none)
    (hN : X.N[i]? = some n := by rfl) (hv : Vis X.env.scope n := by first | exact Or.inl rfl | exact Or.inr (Or.inl rfl) | exact Or.inr (Or.inr rfl)) (hdn : (n == ("__debug__" : Str)) = false := by decide) (hcd : (n == ("__classdict__" : Str)) = false := by decide)
    (hg : Gl X "isinstance" := by rfl) (hgx : Gl X x := by rfl) (hn : x ≠ "__name__" := by decide) (hd : (x == ("__debug__" : Str)) = false := by decide)
    (he : starEach [.Name n p, .Name x p2] X.env = (false, eval (.Name n p) X.env) :: starEach [.Name x p2] X.env := by rfl) (he2 : starEach [.Name x p2] X.env = (false, eval (.Name x p2) X.env) :: starEach [] X.env := by rfl) (hpl : (backTo pos (starEach [.Name x p2] X.env)).any (·.1) = false := by rfl) :
    SEi (X.suite a ((a, oe) :: pn)) (CN X.K) i a (.Call (.Name "isinstance" pos') [.Name n p, .Name x p2] [] pos) (fun σ H Q => σ[i]? = some (some (.ref a)) ∧ ∃ b, tab.lookup q.cls = some b ∧ Q (.bl b) H) (eIsE tab q) := by
  refine ⟨⟨fun pins s σ H Q I h => ?_⟩, fun N H σ env e s hi Q h => ?_⟩
  · obtain ⟨hi, b, hb, hq⟩ := h
    obtain ⟨h1, h2⟩ := T.t _ (look_mem hb)
    rcases T.g with ⟨hx, hmx⟩ | ⟨hx, hmx⟩
    · refine (pe_callB (X := X.suite a ((a, oe) :: pn)) (call_isE h1 hz hf) hg hm boot_isinstance (pa_cons (pv i hN hv hdn hcd) (pa_cons (pe_bltn (v := .ty "ValueError") (u := .type "ValueError") hgx hmx (by rw [hx]; decide +kernel) rfl hn hd) pa_nil he2) he) (by decide) (by decide) he hpl).run pins s σ H Q I ?_
      refine ⟨.ref a, hi, .ty "ValueError", .type "ValueError", b, rfl, fun u r => r, ?_, hq⟩
      rw [show clsV X.K x = .type "ValueError" from if_pos hx] at h2
      exact h2
    · refine (pe_callB (X := X.suite a ((a, oe) :: pn)) (call_isE h1 hz hf) hg hm boot_isinstance (pa_cons (pv i hN hv hdn hcd) (pa_cons (pe_glob (v := .ref (He.ga X.K x)) hgx hmx rfl hd) pa_nil he2) he) (by decide) (by decide) he hpl).run pins s σ H Q I ?_
      refine ⟨.ref a, hi, .ref (He.ga X.K x), .ref (He.ga X.K x), b, rfl, fun u r => r, ?_, hq⟩
      rw [show clsV X.K x = .ref (He.ga X.K x) from if_neg hx] at h2
      exact h2
  · unfold eIsE at h
    refine ⟨hi, ?_⟩
    cases hl : tab.lookup q.cls with
    | none => rw [hl] at h; exact h.elim
    | some b =>
      rw [hl] at h
      exact ⟨b, rfl, h N H (Gr.refl e) _ (.bl b)⟩
/-- try: .. except x as n: .., the suite for exceptions without fields -/
theorem ss_tryAs (i : Nat) {x n : Str} {body suite : List Stmt} {b₀ : Stmt} {np : Pos} {t2 : WX → List (Addr × Obj) → (Value → Shared → Prop) → TS} {t1 : Exn → Addr → Obj → List (Addr × Obj) → TS} {mb : ST} {su : Exn → ST} {tab : List (Str × Bool)} (F : Fr X ⟨xr X.K, some W⟩) (tk : Takes X W) {jj : Nat} (hr : Room jj X.A) (c : XC X.K X.mg x) (hx : ∀ p ∈ tab, PySem.W.exmOne X.K (.ref (He.ga X.K p.1)) (.ref (He.ga X.K x)) = some p.2)
    (hb : ∀ (W : WX) (pn : List (Addr × Obj)) (xe : Value → Shared → Prop), Takes (X.tr pn xe) W → Fr (X.tr pn xe) ⟨xr X.K, some W⟩ → Room jj (X.tr pn xe).A → SSs (X.tr pn xe) ⟨xr X.K, some W⟩ body (t2 W pn xe) mb)
    (hsu : ∀ (q : Exn) (a : Addr) (oe : Obj) (pn : List (Addr × Obj)), Zc (.ref (He.ga X.K q.cls)) none oe → (∃ vs, oe.data = .fields vs) → SSi (X.suite a ((a, oe) :: pn)) (CN X.K) i a (b₀ :: suite) (t1 q a oe pn) (su q))
    (hs : X.stack = X.env :: X.outer := by rfl) (hf : X.env.frame = some X.env.locals := by rfl) (hN : X.N.Nodup := by assumption) (hi : X.N[i]? = some n := by rfl) (hln : X.env.kindOf n = some .local := by rfl) (hg : Gl X x := by rfl) (hd : (x == ("__debug__" : Str)) = false := by decide) :
    SSt X ⟨xr X.K, some W⟩ (.Try body [.ExceptHandler (some (.Name x np)) (some n) (b₀ :: suite) pos'] [] [] pos) (fun D σ H => (fun W D σ H => ∀ pn xe, Takes (X.tr pn xe) W → Fr (X.tr pn xe) ⟨xr X.K, some W⟩ → t2 W pn xe D σ H) (wAs X.K (.ref (He.ga X.K x)) i (fun a cls d D σ H => ∃ q : Exn, cls = .ref (He.ga X.K q.cls) ∧ d = none ∧ ∀ oe pn, Zc (.ref (He.ga X.K q.cls)) none oe → (∃ vs, oe.data = .fields vs) → t1 q a oe pn D σ H) W D) D σ H) (sTryAs i tab mb (suE su)) := by
  refine ⟨ps_try_as (tb := fun W D σ H => ∀ pn xe, Takes (X.tr pn xe) W → Fr (X.tr pn xe) ⟨xr X.K, some W⟩ → t2 W pn xe D σ H) (ts := fun a cls d D σ H => ∃ q : Exn, cls = .ref (He.ga X.K q.cls) ∧ d = none ∧ ∀ oe pn, Zc (.ref (He.ga X.K q.cls)) none oe → (∃ vs, oe.data = .fields vs) → t1 q a oe pn D σ H) hs hf hN hi hln ⟨hg, hd, .inl c.g⟩ tk (fun W pn xe tk pw => ⟨fun pins s σ H D I h => (hb W pn xe tk (F.tr tk pw) hr).ps.run pins s σ H D I (h pn xe tk (F.tr tk pw))⟩) (fun a oe cls d pn hz hfi => ⟨fun pins s σ H D I h => ?_⟩), es_tryAs (tb := fun W D σ H => ∀ pn xe, Takes (X.tr pn xe) W → Fr (X.tr pn xe) ⟨xr X.K, some W⟩ → t2 W pn xe D σ H) (ts := fun a cls d D σ H => ∃ q : Exn, cls = .ref (He.ga X.K q.cls) ∧ d = none ∧ ∀ oe pn, Zc (.ref (He.ga X.K q.cls)) none oe → (∃ vs, oe.data = .fields vs) → t1 q a oe pn D σ H) hx (fun W' B M H σ env fs S D h pn xe tk' F' => (hb W' pn xe tk' F' hr).ev B M H σ env fs S D h) (fun q a cls d B M H σ env fs S hi hq D h => ?_)⟩
  · obtain ⟨q, rfl, rfl, h⟩ := h
    exact (hsu q a oe pn hz hfi).ps.run pins s σ H D I (h oe pn hz hfi)
  · have h : PostF X.K (CN X.K) B D (if q.fs.isEmpty then su q env else .bad) := h
    obtain ⟨h1, h⟩ := PostF.ite h
    have h2 : q.fs = [] := List.isEmpty_iff.mp h1
    rcases hq with ⟨e1, ⟨_, e2⟩ | ⟨e2, _⟩⟩
    · exact ⟨q, e1, e2, fun oe pn hz hfi => (hsu q a oe pn hz hfi).ev B M H σ env fs S hi D h⟩
    · exact absurd h2 e2
end
end Vm

/-! The value machine over HandS: more expressions and statements. -/
namespace Vm
open PySem L2 PyProof.Rows
section
variable {K : PySem.W.Frag} {C : Cn}
theorem ev_dict0 : EvE K C tDNewK (eC (.dct [])) := fun N H σ env e s Q h p hp => h _ _ (Gr.new e hp) _ (.dct (.inl upd_same) .nil)
theorem nx_shl (x y : Val) : NX (vShl x y) := by unfold vShl; split <;> first | exact nx_ite nx_ok nx_bad | exact nx_bad
theorem nx_shr (x y : Val) : NX (vShr x y) := by unfold vShr; split <;> first | exact nx_ite nx_ok nx_bad | exact nx_bad
theorem ops_shl : OpS K (rI CPow fun i j => .int (i * 2 ^ j.toNat)) vShl := ops_I (g := fun i j => .int (i * 2 ^ j.toNat)) (fun _ _ _ => .int _) fun x y z h => by
  unfold vShl at h
  split at h
  · rename_i i j
    obtain ⟨h1, h2⟩ := ite_ok h
    have h1 := big_iff.mp h1
    exact ⟨i, j, rfl, rfl, ⟨h1.1, h1.2.1, by have := h1.2.2; omega⟩, h2⟩
  · cases h
theorem ops_shr : OpS K (rI (fun _ j => 0 ≤ j) fun i j => .int (i / 2 ^ j.toNat)) vShr := ops_I (g := fun i j => .int (i / 2 ^ j.toNat)) (fun _ _ _ => .int _) fun x y z h => by
  unfold vShr at h
  split at h
  · rename_i i j
    obtain ⟨h1, h2⟩ := ite_ok h
    exact ⟨i, j, rfl, rfl, h1, h2⟩
  · cases h
/-! {k: e, ..} with keys that are made -/
def EvPrV (K : PySem.W.Frag) (C : Cn) (trs : List (TE × TE)) (m : Env → Res (List (Key × Val))) : Prop := ∀ N H σ env, Sub N H → SV K N σ env → ∀ Q : List (V × V) → Hp → Prop, PostR C σ N H (m env) (fun xs N' H' => ∀ vs, RKs K N' vs xs → Q (vs.map fun kv => (kV kv.1, kv.2)) H') → tPairs trs σ H Q
theorem eprv_nil : EvPrV K C [] (DPairsV []) := fun N H σ env e s Q h => h N H (Gr.refl e) [] .nil
theorem eprv_cons {tk ta : TE} {mk ma : EX} {trs : List (TE × TE)} {ps : List (EX × EX)} (hk : EvE K C tk mk) (ha : EvE K C ta ma) (hr : EvPrV K C trs (DPairsV ps)) : EvPrV K C ((tk, ta) :: trs) (DPairsV ((mk, ma) :: ps)) := fun N H σ env e s Q h => by
  refine hk N H σ env e s _ (PostR.imp (PostR.bind h) fun q N0 H0 g0 h0 w rw' => ?_)
  refine ha N0 H0 σ env g0.nh (s.mono g0.nn) _ (PostR.imp (PostR.bind h0) fun x N1 H1 g1 h1 v rv => ?_)
  cases hq : keyOfV q with
  | none => rw [hq] at h1; exact h1.elim
  | some k =>
    rw [hq] at h1
    refine hr N1 H1 σ env g1.nh ((s.mono g0.nn).mono g1.nn) _ (PostR.imp (PostR.bind h1) fun xs N2 H2 g2 h2 vs rvs => ?_)
    have e1 := keyOf_rv rw' hq
    subst e1
    exact h2 N2 H2 (Gr.refl g2.nh) ((k, v) :: vs) (.cons (rv.mono g2.nn) rvs)
theorem ev_dictV {trs : List (TE × TE)} {m : Env → Res (List (Key × Val))} (hp : EvPrV K C trs m) : EvE K C (tDisp trs) (fun env => (m env).bind fun kvs => if kvs.length ≤ 15 then .ok (.dct (mergeV [] kvs)) else .bad) := fun N H σ env e s Q h p hpn => by
  have hNp : N p = none := by
    cases hq : N p with
    | none => rfl
    | some o => have := e p o hq; rw [hpn] at this; cases this
  have e1 : Sub N (upd H p (.dK [])) := fun a o q => by rw [upd_ne (ne_of_none q hNp)]; exact e a o q
  have g0 : Gr N H N (upd H p (.dK [])) := ⟨fun a o q => by rw [upd_ne (ne_of_none q hpn)]; exact q, fun a o q => q, e1, fun a q => .inl q⟩
  have h : PostR C σ N H ((m env).bind fun kvs => if kvs.length ≤ 15 then .ok (.dct (mergeV [] kvs)) else .bad) (fun x N' H' => ∀ v, RV K N' v x → Q v H') := h
  cases hd : m env with
  | bad => rw [hd] at h; exact h.elim
  | exc q =>
    rw [hd] at h
    exact hp N _ σ env e1 s _ (by rw [hd]; exact ExcP.step g0 h)
  | ok xs =>
    rw [hd] at h
    refine hp N _ σ env e1 s _ ?_
    rw [hd]
    intro N2 H2 g2 vs rvs
    have h : PostR C σ N H (if xs.length ≤ 15 then .ok (.dct (mergeV [] xs)) else .bad) (fun x N' H' => ∀ v, RV K N' v x → Q v H') := h
    split at h
    · rename_i hl
      have hH2 : H2 p = some (.dK []) := g2.hh p _ upd_same
      have hN2 : N2 p = none := by
        cases hq : N2 p with
        | none => rfl
        | some o =>
          rcases g2.nw p (by rw [hq]; simp) with h3 | h3
          · exact absurd hNp h3
          · rw [upd_same] at h3; cases h3
      refine ⟨hH2, vs, rfl, by rw [rvs.length]; exact hl, ?_⟩
      have e3 : Sub N2 (upd N2 p (.dK (mergeK [] vs))) := fun a o q => by rw [upd_ne (ne_of_none q hN2)]; exact q
      refine h (upd N2 p (.dK (mergeK [] vs))) _ ⟨fun a o q => ?_, fun a o q => e3 a o (g2.nn a o q), fun a o q => ?_, fun a q => ?_⟩ _ (.dct (.inl upd_same) (RKs.merge (RKs.mono e3 _ rvs) .nil))
      · rw [upd_ne (ne_of_none q hpn)]
        exact g2.hh a o (by rw [upd_ne (ne_of_none q hpn)]; exact q)
      · by_cases hap : a = p
        · subst hap; rw [upd_same] at q ⊢; exact q
        · rw [upd_ne hap] at q ⊢
          exact g2.nh a o q
      · by_cases hap : a = p
        · subst hap; exact .inr hpn
        · rw [upd_ne hap] at q
          rcases g2.nw a q with h3 | h3
          · exact .inl h3
          · rw [upd_ne hap] at h3; exact .inr h3
    · exact h.elim
/-! ranges as values -/
theorem rgV_rv {N : Hp} (i j : Int) : RVs K N (rgV i j) (rangeL i (j - i).toNat) := by
  unfold rgV rangeL
  generalize (j - i).toNat = n
  have : ∀ l : List Nat, RVs K N (l.map fun k => V.int (i + (k : Nat))) (l.map fun (k : Nat) => Val.int (i + (k : Int))) := by
    intro l
    induction l with
    | nil => exact .nil
    | cons x l ih => exact .cons (.int _) ih
  exact this _
theorem range_in {mk : List Val → Val} {i j : Int} {x : Val} (h : rangeV mk i j = .ok x) : RgOk i j ∧ x = mk (rangeL i (j - i).toNat) := by
  unfold rangeV at h
  obtain ⟨h1, h2⟩ := ite_ok h
  simp only [Bool.and_eq_true] at h1
  have a := smallI_ok h1.1.1
  have b := smallI_ok h1.1.2
  have c := big_iff.mp h1.2
  exact ⟨⟨by omega, by omega, by omega, by omega, by omega⟩, h2⟩
theorem nx_rangeV (mk : List Val → Val) (i j : Int) : NX (rangeV mk i j) := nx_ite nx_ok nx_bad
theorem ef_listRg1 {ta : TE} {ma : EX} (ha : EvE K C ta ma) : EvF K C (tLstRg (tRg1 ta)) (eRange1 .lst ma) := fun N H σ env e s Q h => by
  refine ha N H σ env e s _ (PostR.imp (PostR.bind h) fun x N1 H1 g1 h1 v rv => ?_)
  cases rv with
  | int n =>
    obtain ⟨z, hz, kk⟩ := h1.val (nx_rangeV _ _ _)
    obtain ⟨r1, rfl⟩ := range_in hz
    refine ⟨n, rfl, r1, fun q hq => ?_⟩
    obtain ⟨ys, e1, k3⟩ := kk N1 H1 (Gr.refl g1.nh)
    cases e1
    exact k3 q _ hq (rgV_rv 0 n)
  | _ => exact h1.elim
theorem ef_listRg2 {ta tb : TE} {ma mb : EX} (ha : EvE K C ta ma) (hb : EvE K C tb mb) : EvF K C (tLstRg (tRg2 ta tb)) (eRange2 .lst ma mb) := fun N H σ env e s Q h => by
  refine ha N H σ env e s _ (PostR.imp (PostR.bind h) fun x N1 H1 g1 h1 v rv => ?_)
  refine hb N1 H1 σ env g1.nh (s.mono g1.nn) _ (PostR.imp (PostR.bind h1) fun y N2 H2 g2 h2 w rw' => ?_)
  cases rv with
  | int i =>
    cases rw' with
    | int j =>
      obtain ⟨z, hz, kk⟩ := (show PostR C σ N2 H2 (rangeV .lst i j) _ from h2).val (nx_rangeV _ _ _)
      obtain ⟨r1, rfl⟩ := range_in hz
      refine ⟨i, j, rfl, rfl, r1, fun q hq => ?_⟩
      obtain ⟨ys, e1, k3⟩ := kk N2 H2 (Gr.refl g2.nh)
      cases e1
      exact k3 q _ hq (rgV_rv i j)
    | _ => exact h2.elim
  | _ => exact h2.elim
theorem ev_tupRg1 {ta : TE} {ma : EX} (ha : EvE K C ta ma) : EvE K C (tTupRg (tRg1 ta)) (eRange1 .tup ma) := fun N H σ env e s Q h => by
  refine ha N H σ env e s _ (PostR.imp (PostR.bind h) fun x N1 H1 g1 h1 v rv => ?_)
  cases rv with
  | int n =>
    obtain ⟨z, hz, kk⟩ := h1.val (nx_rangeV _ _ _)
    obtain ⟨r1, rfl⟩ := range_in hz
    refine ⟨n, rfl, r1, fun q hq => ?_⟩
    exact kk _ _ (Gr.new g1.nh hq) _ (.tup (SqT.of upd_same) (rgV_rv 0 n))
  | _ => exact h1.elim
theorem range1_lst {ma : EX} (env : Env) (x : Val) (h : eRange1 .lst ma env = .ok x) : ∃ xs, x = .lst xs := by
  unfold eRange1 at h
  cases h1 : ma env with
  | ok y =>
    rw [h1] at h
    cases y with
    | int n => exact ⟨_, (range_in (show rangeV .lst 0 n = .ok x from h)).2⟩
    | _ => cases h
  | exc e => rw [h1] at h; cases h
  | bad => rw [h1] at h; cases h
theorem range2_lst {ma mb : EX} (env : Env) (x : Val) (h : eRange2 .lst ma mb env = .ok x) : ∃ xs, x = .lst xs := by
  unfold eRange2 at h
  cases h1 : ma env with
  | ok y =>
    rw [h1] at h
    cases h2 : mb env with
    | ok z =>
      rw [h2] at h
      cases y with
      | int i =>
        cases z with
        | int j => exact ⟨_, (range_in (show rangeV .lst i j = .ok x from h)).2⟩
        | _ => cases h
      | _ => cases h
    | exc e => rw [h2] at h; cases h
    | bad => rw [h2] at h; cases h
  | exc e => rw [h1] at h; cases h
  | bad => rw [h1] at h; cases h
/-! pop(k) -/
variable {B : Bs} {M H : Hp} {σ : L2.St} {env : Env} {fs : List Addr} {D : Ends}
theorem RVs.eraseIdx {N : Hp} : ∀ {vs : List V} {xs : List Val} (j : Nat), RVs K N vs xs → RVs K N (vs.eraseIdx j) (xs.eraseIdx j)
  | _, _, _, .nil => .nil
  | _, _, 0, .cons _ r => r
  | _, _, j + 1, .cons h r => .cons h (RVs.eraseIdx j r)
theorem seqIx {n : Nat} {k : Int} {m : Nat} (h : ixNat n k = some m) : seqIndex? k n = some m := by
  unfold ixNat at h
  unfold seqIndex?
  split at h
  · rename_i h0
    split at h
    · cases h
      rw [if_neg (by omega : ¬ k < 0), if_pos (by simp; omega)]
    · cases h
  · split at h
    · rename_i h0 h1
      cases h
      rw [if_pos (by omega : k < 0), if_pos (by simp; omega)]
    · cases h
theorem pop_at {k : Val} {f : Val → List Val → Flow} {i : Nat} (S : SR K B M H σ env fs) (h : PostF K C B D (popAt i env k f)) : ∃ xs a vs n m x v, env[i]? = some (.oL xs) ∧ k = .int n ∧ σ[i]? = some (some (.ref a)) ∧ H a = some (.lst vs) ∧ RVs K M vs xs ∧ -(2 ^ 63) ≤ n ∧ n < 2 ^ 63 ∧ seqIndex? n vs.length = some m ∧ vs[m]? = some v ∧ RV K M v x ∧
    SR K B M (upd H a (.lst (vs.eraseIdx m))) σ (env.set i (.oL (xs.eraseIdx m))) fs ∧ PostF K C B D (f x (xs.eraseIdx m)) := by
  unfold popAt at h
  split at h
  · rename_i xs n hx
    obtain ⟨hs, h⟩ := PostF.ite h
    split at h
    · rename_i m hm
      split at h
      · rename_i x hg
        obtain ⟨a, vs, h1, h2, h3, h4⟩ := S.write hx
        obtain ⟨v, hv, rv⟩ := h3.get hg
        obtain ⟨s1, s2⟩ := smallI_ok hs
        exact ⟨xs, a, vs, n, m, x, v, hx, rfl, h1, h2, h3, by omega, by omega, by rw [h3.length]; exact seqIx hm, hv, rv, h4 (h3.eraseIdx m), h⟩
      · exact h.elim
    · exact h.elim
  · exact h.elim
theorem es_popAtTo {tb : TE} {mb : EX} {i j : Nat} (hb : EvE K C tb mb) : EvS K C (tAsg (tBM K "list" rPopAt (tVar i) (tCons tb tNil)) (gName j)) (sPopAtTo i j mb) := fun B M H σ env fs S D h => by
  unfold sPopAtTo at h
  split at h
  · rename_i xs0 hx0
    obtain ⟨a0, vs0, h01, h02, h03, _⟩ := S.write hx0
    refine ⟨.ref a0, h01, .inl ⟨rfl, vs0, SqL.of h02⟩, ?_⟩
    refine hb _ H σ env (full_sub S) S.sv _ (post_full S h fun k N' H' _ g S' hq w rw' => ?_)
    obtain ⟨xs, a, vs, n, m, x, v, hx, rfl, h1, h2, h3, b1, b2, hm, hv, rv, S2, hq⟩ := pop_at S' hq
    rw [h01] at h1
    cases h1
    cases rw'
    obtain ⟨⟨hj, hij⟩, hq⟩ := PostF.ite hq
    refine ⟨a0, vs, n, m, v, rfl, rfl, h2, b1, b2, hm, hv, ?_⟩
    obtain ⟨fs', S3⟩ := S2.putV (i := j) rv
    exact hq _ _ _ fs' S3
  · exact h.elim
theorem es_appPop {tb : TE} {mb : EX} {i j : Nat} (hb : EvE K C tb mb) : EvS K C (tDrop (tBM K "list" rAppend (tVar i) (tCons (tBM K "list" rPopAt (tVar j) (tCons tb tNil)) tNil))) (sAppPop i j mb) := fun B M H σ env fs S D h => by
  unfold sAppPop at h
  split at h
  · rename_i ys ys0 hy hx0
    obtain ⟨c, us, k1, k2, k3, _⟩ := S.write hy
    obtain ⟨a0, vs0, h01, h02, h03, _⟩ := S.write hx0
    refine ⟨.ref c, k1, .inl ⟨rfl, us, SqL.of k2⟩, ?_⟩
    refine ⟨.ref a0, h01, .inl ⟨rfl, vs0, SqL.of h02⟩, ?_⟩
    refine hb _ H σ env (full_sub S) S.sv _ (post_full S h fun k N' H' _ g S' hq w rw' => ?_)
    obtain ⟨xs, a, vs, n, m, x, v, hx, rfl, h1, h2, h3, b1, b2, hm, hv, rv, S2, hq⟩ := pop_at S' hq
    rw [h01] at h1
    cases h1
    cases rw'
    obtain ⟨⟨hij, hl⟩, hq⟩ := PostF.ite hq
    refine ⟨a0, vs, n, m, v, rfl, rfl, h2, b1, b2, hm, hv, ?_⟩
    obtain ⟨c', us', q1, q2, q3, q4⟩ := S2.write (i := i) (xs := ys) (by rw [List.getElem?_set_ne (Ne.symm hij)]; exact hy)
    rw [k1] at q1
    cases q1
    refine ⟨c, us', v, rfl, rfl, q2, by rw [line_eq, q3.length]; exact hl, ?_⟩
    exact hq _ _ σ fs (q4 (q3.append (.cons rv .nil)))
  · exact h.elim
end
section
variable {X : Cx} {C : Cn} {a b c : Expr} {ta tb tc : TE} {ma mb mc : EX} {pos p : Pos} {es : List Expr}
/-- a comprehension that may be assigned to a plain local name -/
structure SFc (X : Cx) (C : Cn) (e : Expr) (te : TE) (m : EX) : Prop where
  sf : SF X C e te m
  as : ∀ (i : Nat) (y : Str) (py spos : Pos), X.N.Nodup → X.N[i]? = some y → X.env.scope.names.lookup y = some .local → swapsWith e (some (.Name y py)) spos.line X.env = pure true → PS X (.Assign [.Name y py] e spos) (tAsg te (gName i))
theorem sfc_comp {tt : TT} {mt : EB} {elt tg iter : Expr} {ifs : List Expr} {scope : Scope} {own : List (Str × Nat)} {wi : TI} {it : EI} {g : TG} {put : Put} {is : List Nat} {te : TE} {me : EX} (F : Fr X C) (hi : SI X C tg iter wi it) (hp : inBlk X scope fun Y => STg Y tg g put is) (ht : inBlk X scope fun Y => STt Y (C0 C) ifs tt mt)
    (he : inBlk X scope fun Y => SE Y (C0 C) elt te me) (hsub : ∀ i ∈ is, i ∈ own.map (·.2) := by decide) (hN : X.N.Nodup := by assumption) (ok : BlkOk X.N X.env.scope scope own := by exact blkOk_by (by rfl)) (hs : ∀ x, foldedSetIterable iter X.env x = pure x := by intro _; rfl) :
    SFc X C (.ListComp elt [⟨tg, iter, ifs, 0⟩] scope pos) (tLc wi g tt te (own.map (·.2))) (eComp it (own.map (·.2)) put mt me) :=
  ⟨sf_comp F hi hp ht he hsub hN ok hs, fun i y py spos hN' hy hyl hsw => ps_setLc F.ca hN' hy hyl hsw hi.pi ok (fun s H Cc cl fp => (hp s H Cc cl fp).pe) (fun s H Cc cl fp => (ht s H Cc cl fp).pe) (fun s H Cc cl fp => (he s H Cc cl fp).pe) hs⟩
theorem ss_setLc (i : Nat) {x : Str} {it : EI} {own : List Nat} {put : Put} {mt : EB} {me : EX} (h : SFc X C a ta (eComp it own put mt me)) (hs : swapsWith a (some (.Name x p)) pos.line X.env = pure true := by exact sw_true rfl rfl rfl (by decide +kernel)) (hN : X.N.Nodup := by assumption) (hi : X.N[i]? = some x := by rfl) (hx : X.env.scope.names.lookup x = some .local := by rfl) :
    SSt X C (.Assign [.Name x p] a pos) (tAsg ta (gName i)) (sSet i (eComp it own put mt me)) := ⟨h.as i x p pos hN hi hx hs, es_set (EvF.e comp_lst h.sf.ev)⟩
theorem ss_setLcN (i : Nat) {x : Str} {it : EI} {own : List Nat} {put : Put} {mt : EB} {me : EX} (h : SFc X C a ta (eComp it own put mt me)) (hs : swapsWith a (some (.Name x p)) pos.line X.env = pure true := by exact sw_true rfl rfl rfl (by decide +kernel)) (hN : X.N.Nodup := by assumption) (hi : X.N[i]? = some x := by rfl) (hx : X.env.scope.names.lookup x = some .local := by rfl) :
    SSt X C (.Assign [.Name x p] a pos) (tAsg ta (gName i)) (sSetN i (eComp it own put mt me)) := ⟨h.as i x p pos hN hi hx hs, es_setN (EvF.e comp_lst h.sf.ev)⟩
theorem ss_ownLc (i : Nat) {x : Str} (h : SFc X C a ta ma) (hs : swapsWith a (some (.Name x p)) pos.line X.env = pure true := by exact sw_true rfl rfl rfl (by decide +kernel)) (hN : X.N.Nodup := by assumption) (hi : X.N[i]? = some x := by rfl) (hx : X.env.scope.names.lookup x = some .local := by rfl) :
    SSt X C (.Assign [.Name x p] a pos) (tAsg ta (gName i)) (sOwn i ma) := ⟨h.as i x p pos hN hi hx hs, es_own h.sf.ev⟩
theorem ss_ownLcN (i : Nat) {x : Str} (h : SFc X C a ta ma) (hs : swapsWith a (some (.Name x p)) pos.line X.env = pure true := by exact sw_true rfl rfl rfl (by decide +kernel)) (hN : X.N.Nodup := by assumption) (hi : X.N[i]? = some x := by rfl) (hx : X.env.scope.names.lookup x = some .local := by rfl) :
    SSt X C (.Assign [.Name x p] a pos) (tAsg ta (gName i)) (sOwnN i ma) := ⟨h.as i x p pos hN hi hx hs, es_ownN h.sf.ev⟩
theorem se_dict0 : SE X C (.Dict [] [] pos) tDNewK (eC (.dct [])) := ⟨pe_dnewK, ev_dict0⟩
theorem se_shl (ha : SE X C a ta ma) (hb : SE X C b tb mb) : SE X C (.BinOp a .LShift b pos) (tOp (rI CPow fun i j => .int (i * 2 ^ j.toNat)) ta tb) (e2 vShl ma mb) := ⟨pe_op op_shl ha.pe hb.pe, ev_op ops_shl nx_shl ha.ev hb.ev⟩
theorem se_shr (ha : SE X C a ta ma) (hb : SE X C b tb mb) : SE X C (.BinOp a .RShift b pos) (tOp (rI (fun _ j => 0 ≤ j) fun i j => .int (i / 2 ^ j.toNat)) ta tb) (e2 vShr ma mb) := ⟨pe_op op_shr ha.pe hb.pe, ev_op ops_shr nx_shr ha.ev hb.ev⟩
structure SPrV (X : Cx) (C : Cn) (pos : Pos) (keys : List (Option Expr)) (values : List Expr) (trs : List (TE × TE)) (ps : List (EX × EX)) : Prop where
  pe : PPs X pos keys values trs
  ev : EvPrV X.K C trs (DPairsV ps)
theorem spv_nil : SPrV X C pos [] [] [] [] := ⟨pps_nil, eprv_nil⟩
theorem spv_cons {ks : List (Option Expr)} {vs : List Expr} {trs : List (TE × TE)} {ps : List (EX × EX)} (ha : SE X C a ta ma) (hb : SE X C b tb mb) (hr : SPrV X C pos ks vs trs ps) : SPrV X C pos (some a :: ks) (b :: vs) ((ta, tb) :: trs) ((ma, mb) :: ps) := ⟨pps_cons ha.pe hb.pe hr.pe, eprv_cons ha.ev hb.ev hr.ev⟩
theorem se_dictV {keys : List (Option Expr)} {values : List Expr} {trs : List (TE × TE)} {ps : List (EX × EX)} (h : SPrV X C pos keys values trs ps) (hall : keys.all (·.isSome) = true := by rfl) (hl : keys.length = values.length := by rfl) (h0 : keys ≠ [] := by intro h; cases h) (h15 : keys.length ≤ 15 := by decide) :
    SE X C (.Dict keys values pos) (tDisp trs) (eDictV ps) := ⟨pe_disp h.pe hall hl h0 h15, ev_dictV h.ev⟩
theorem sf_listRg1 {p2 pos2 : Pos} (F : Fr X C) (hm : X.mg "list" = none) (hr : X.mg "range" = none) (ha : SE X C a ta ma) (hg : Gl X "list" := by rfl) (hgr : Gl X "range" := by rfl) (na1 : starEach [a] X.env = (false, eval a X.env) :: starEach [] X.env := by rfl)
    (na : starEach [.Call (.Name "range" p2) [a] [] pos2] X.env = (false, eval (.Call (.Name "range" p2) [a] [] pos2) X.env) :: starEach [] X.env := by rfl) : SF X C (.Call (.Name "list" p) [.Call (.Name "range" p2) [a] [] pos2] [] pos) (tLstRg (tRg1 ta)) (eRange1 .lst ma) := ⟨pe_listRg F.ca hg hm (prg_1 hgr hr ha.pe na1) na, ef_listRg1 ha.ev⟩
theorem se_listRg1 {p2 pos2 : Pos} (F : Fr X C) (hm : X.mg "list" = none) (hr : X.mg "range" = none) (ha : SE X C a ta ma) (hg : Gl X "list" := by rfl) (hgr : Gl X "range" := by rfl) (na1 : starEach [a] X.env = (false, eval a X.env) :: starEach [] X.env := by rfl)
    (na : starEach [.Call (.Name "range" p2) [a] [] pos2] X.env = (false, eval (.Call (.Name "range" p2) [a] [] pos2) X.env) :: starEach [] X.env := by rfl) : SE X C (.Call (.Name "list" p) [.Call (.Name "range" p2) [a] [] pos2] [] pos) (tLstRg (tRg1 ta)) (eRange1 .lst ma) := ⟨(sf_listRg1 (p := p) (pos := pos) F hm hr ha hg hgr na1 na).pe, EvF.e range1_lst (ef_listRg1 ha.ev)⟩
theorem sf_listRg2 {p2 pos2 : Pos} (F : Fr X C) (hm : X.mg "list" = none) (hr : X.mg "range" = none) (ha : SE X C a ta ma) (hb : SE X C b tb mb) (hg : Gl X "list" := by rfl) (hgr : Gl X "range" := by rfl) (na1 : starEach [a, b] X.env = (false, eval a X.env) :: starEach [b] X.env := by rfl) (nb : starEach [b] X.env = (false, eval b X.env) :: starEach [] X.env := by rfl) (hp : (backTo pos2 (starEach [b] X.env)).any (·.1) = false := by rfl)
    (na : starEach [.Call (.Name "range" p2) [a, b] [] pos2] X.env = (false, eval (.Call (.Name "range" p2) [a, b] [] pos2) X.env) :: starEach [] X.env := by rfl) : SF X C (.Call (.Name "list" p) [.Call (.Name "range" p2) [a, b] [] pos2] [] pos) (tLstRg (tRg2 ta tb)) (eRange2 .lst ma mb) := ⟨pe_listRg F.ca hg hm (prg_2 hgr hr ha.pe hb.pe na1 nb hp) na, ef_listRg2 ha.ev hb.ev⟩
theorem se_listRg2 {p2 pos2 : Pos} (F : Fr X C) (hm : X.mg "list" = none) (hr : X.mg "range" = none) (ha : SE X C a ta ma) (hb : SE X C b tb mb) (hg : Gl X "list" := by rfl) (hgr : Gl X "range" := by rfl) (na1 : starEach [a, b] X.env = (false, eval a X.env) :: starEach [b] X.env := by rfl) (nb : starEach [b] X.env = (false, eval b X.env) :: starEach [] X.env := by rfl) (hp : (backTo pos2 (starEach [b] X.env)).any (·.1) = false := by rfl)
    (na : starEach [.Call (.Name "range" p2) [a, b] [] pos2] X.env = (false, eval (.Call (.Name "range" p2) [a, b] [] pos2) X.env) :: starEach [] X.env := by rfl) : SE X C (.Call (.Name "list" p) [.Call (.Name "range" p2) [a, b] [] pos2] [] pos) (tLstRg (tRg2 ta tb)) (eRange2 .lst ma mb) := ⟨(sf_listRg2 (p := p) (pos := pos) F hm hr ha hb hg hgr na1 nb hp na).pe, EvF.e range2_lst (ef_listRg2 ha.ev hb.ev)⟩
theorem se_tupRg1 {p2 pos2 : Pos} (F : Fr X C) (hm : X.mg "tuple" = none) (hr : X.mg "range" = none) (ha : SE X C a ta ma) (hg : Gl X "tuple" := by rfl) (hgr : Gl X "range" := by rfl) (na1 : starEach [a] X.env = (false, eval a X.env) :: starEach [] X.env := by rfl)
    (na : starEach [.Call (.Name "range" p2) [a] [] pos2] X.env = (false, eval (.Call (.Name "range" p2) [a] [] pos2) X.env) :: starEach [] X.env := by rfl) : SE X C (.Call (.Name "tuple" p) [.Call (.Name "range" p2) [a] [] pos2] [] pos) (tTupRg (tRg1 ta)) (eRange1 .tup ma) := ⟨pe_tupRg F.ca hg hm (prg_1 hgr hr ha.pe na1) na, ev_tupRg1 ha.ev⟩
theorem sg_tupL {k : Nat} {g : TGs} {is : List Nat} (F : Fr X C) (h : STs X es g is) (hn : (assignEach es X.env).length = is.length := by rfl) (hst : (assignEach es X.env).findIdx? (·.1) = none := by rfl) : STg X (.Tuple es k pos) (gLst X.K is.length g) (pTupL is) is := ⟨pg_lst F.ca h.pe hn hst, ep_tupL h.ev⟩
theorem nx_pTupL {is : List Nat} (x : Val) (env : Env) : NX (pTupL is x env) := by
  unfold pTupL
  split
  · exact nx_putAll _ _
  · exact nx_bad
/-- x.pop(b), as in y = x.pop(b) -/
structure SPop (X : Cx) (C : Cn) (i : Nat) (e : Expr) (tb : TE) (mb : EX) : Prop where
  pe : PE X e (tBM X.K "list" rPopAt (tVar i) (tCons tb tNil))
  ev : EvE X.K C tb mb
theorem pe_popAt (i : Nat) {x : Str} {pa : Pos} (hb : SE X C b tb mb) (hN : X.N[i]? = some x := by rfl) (hv : Vis X.env.scope x := by first | exact Or.inl rfl | exact Or.inr (Or.inl rfl) | exact Or.inr (Or.inr rfl)) (hd : (x == ("__debug__" : Str)) = false := by decide) (hcd : (x == ("__classdict__" : Str)) = false := by decide)
    (hbase : attributeBase (.Name x p) "pop" X.env (eval (.Name x p) X.env) = eval (.Name x p) X.env := by rfl)
    (hfew : ((backTo pos (starEach [b] X.env)).all (fun x => !x.1) && (backToKw pos (keywordEach [] X.env)).all (fun x => x.1.isSome)
      && decide ([b].length + ([] : List Keyword).length + (if ([] : List Keyword).isEmpty then 0 else 1) < 30)) = true := by rfl)
    (hline : (pa.endLine == pos.line) = true := by rfl) (hs : starEach [b] X.env = (false, eval b X.env) :: starEach [] X.env := by rfl) (hplain : (backTo pos (starEach [] X.env)).any (·.1) = false := by rfl) :
    SPop X C i (.Call (.Attribute (.Name x p) "pop" pa) [b] [] pos) tb mb := ⟨pe_bm PySem.F.plainAttrs_list PySem.F.slot_list_pop PySem.F.type_list_pop mt_popAt (pv i hN hv hd hcd) (pa_cons hb.pe pa_nil hs) hbase hfew hline hs hplain, hb.ev⟩
theorem ss_popAtTo (i j : Nat) {y : Str} {py : Pos} {e : Expr} (h : SPop X C i e tb mb)
    (hs : swapsWith e (some (.Name y py)) pos.line X.env = pure false := by rfl) (hNd : X.N.Nodup := by assumption) (hi : X.N[j]? = some y := by rfl) (hx : Loc X.env.scope y := by first | exact .inl rfl | exact .inr rfl)
    (hf : X.fn y = true ∨ X.env.scope.names.lookup y = some .local := by first | exact .inr rfl | exact .inl rfl) : SSt X C (.Assign [.Name y py] e pos) (tAsg (tBM X.K "list" rPopAt (tVar i) (tCons tb tNil)) (gName j)) (sPopAtTo i j mb) := ⟨ps_set hNd hi hx h.pe hs hf, es_popAtTo h.ev⟩
theorem ss_appPop (i j : Nat) {x : Str} {e : Expr} {pa pos2 : Pos} (h : SPop X C j e tb mb) (hN : X.N[i]? = some x := by rfl) (hv : Vis X.env.scope x := by first | exact Or.inl rfl | exact Or.inr (Or.inl rfl) | exact Or.inr (Or.inr rfl)) (hd : (x == ("__debug__" : Str)) = false := by decide) (hcd : (x == ("__classdict__" : Str)) = false := by decide)
    (hbase : attributeBase (.Name x p) "append" X.env (eval (.Name x p) X.env) = eval (.Name x p) X.env := by rfl)
    (hfew : ((backTo pos (starEach [e] X.env)).all (fun x => !x.1) && (backToKw pos (keywordEach [] X.env)).all (fun x => x.1.isSome)
      && decide ([e].length + ([] : List Keyword).length + (if ([] : List Keyword).isEmpty then 0 else 1) < 30)) = true := by rfl)
    (hline : (pa.endLine == pos.line) = true := by rfl) (hs : starEach [e] X.env = (false, eval e X.env) :: starEach [] X.env := by rfl) (hplain : (backTo pos (starEach [] X.env)).any (·.1) = false := by rfl)
    (hsw : swapsWith (.Call (.Attribute (.Name x p) "append" pa) [e] [] pos) none pos2.line X.env = pure false := by rfl) : SSt X C (.Expr (.Call (.Attribute (.Name x p) "append" pa) [e] [] pos) pos2) (tDrop (tBM X.K "list" rAppend (tVar i) (tCons (tBM X.K "list" rPopAt (tVar j) (tCons tb tNil)) tNil))) (sAppPop i j mb) :=
  ⟨ps_expr (pe_bm PySem.F.plainAttrs_list PySem.F.slot_list_append PySem.F.type_list_append mt_append (pv i hN hv hd hcd) (pa_cons h.pe pa_nil hs) hbase hfew hline hs hplain) hsw, es_appPop h.ev⟩
end
end Vm

/-! The value machine over HandS: comprehensions of two clauses. -/
namespace Vm
open PySem L2
def compL2 (put : Put) (tt : EB) (it1 : EI) (own1 : List Nat) (put1 : Put) (tt1 : EB) (el : EX) (env : Env) : List Val → Res (List Val)
  | [] => .ok []
  | x :: xs => (put x env).nx.bind fun e => (tt e).nx.bind fun b => bif b then (it1 e).nx.bind fun ys => (compL put1 tt1 el (wipeE e own1) ys).bind fun r => (compL2 put tt it1 own1 put1 tt1 el env xs).bind fun r' => .ok (r ++ r') else compL2 put tt it1 own1 put1 tt1 el env xs
def eComp2 (it : EI) (own : List Nat) (put : Put) (tt : EB) (it1 : EI) (own1 : List Nat) (put1 : Put) (tt1 : EB) (el : EX) : EX := fun env => (it env).bind fun xs => (compL2 put tt it1 own1 put1 tt1 el (wipeE env own) xs).bind fun r => if r.length ≤ 16777216 then .ok (.lst r) else .bad
section
variable {put put1 : Put} {tt tt1 : EB} {it1 : EI} {own1 : List Nat} {el : EX} {env : Env}
theorem compL_nx : ∀ (xs : List Val) (q : Exn), compL put tt el env xs ≠ .exc q
  | [], _ => fun h => by cases h
  | x :: xs, q => fun h => by
    unfold compL at h
    cases h1 : put x env with
    | bad => rw [h1] at h; cases h
    | exc q => rw [h1] at h; cases h
    | ok e =>
      rw [h1] at h
      replace h : ((tt e).nx.bind fun b => bif b then (el e).nx.bind fun y => (compL put tt el env xs).bind fun r => .ok (y :: r) else compL put tt el env xs) = .exc q := h
      cases h2 : tt e with
      | bad => rw [h2] at h; cases h
      | exc q => rw [h2] at h; cases h
      | ok b =>
        rw [h2] at h
        cases b with
        | false => exact compL_nx xs q h
        | true =>
          replace h : ((el e).nx.bind fun y => (compL put tt el env xs).bind fun r => .ok (y :: r)) = .exc q := h
          cases h3 : el e with
          | bad => rw [h3] at h; cases h
          | exc q => rw [h3] at h; cases h
          | ok y =>
            rw [h3] at h
            replace h : ((compL put tt el env xs).bind fun r => .ok (y :: r)) = .exc q := h
            cases h4 : compL put tt el env xs with
            | bad => rw [h4] at h; cases h
            | exc q' => rw [h4] at h; cases h; exact compL_nx xs q h4
            | ok r' => rw [h4] at h; cases h
theorem compL2_nx : ∀ (xs : List Val) (q : Exn), compL2 put tt it1 own1 put1 tt1 el env xs ≠ .exc q
  | [], _ => fun h => by cases h
  | x :: xs, q => fun h => by
    unfold compL2 at h
    cases h1 : put x env with
    | bad => rw [h1] at h; cases h
    | exc q => rw [h1] at h; cases h
    | ok e =>
      rw [h1] at h
      simp only [Res.nx, Res.bind_ok] at h
      cases h2 : tt e with
      | bad => rw [h2] at h; cases h
      | exc q => rw [h2] at h; cases h
      | ok b =>
        rw [h2] at h
        simp only [Res.nx, Res.bind_ok] at h
        cases b with
        | false => exact compL2_nx xs q h
        | true =>
          simp only [cond_true] at h
          cases h3 : it1 e with
          | bad => rw [h3] at h; cases h
          | exc q => rw [h3] at h; cases h
          | ok ys =>
            rw [h3] at h
            simp only [Res.nx, Res.bind_ok] at h
            cases h4 : compL put1 tt1 el (wipeE e own1) ys with
            | bad => rw [h4] at h; cases h
            | exc q' => exact compL_nx _ _ h4
            | ok r =>
              rw [h4] at h
              simp only [Res.bind_ok] at h
              cases h5 : compL2 put tt it1 own1 put1 tt1 el env xs with
              | bad => rw [h5] at h; cases h
              | exc q' => exact compL2_nx xs _ h5
              | ok r' => rw [h5] at h; cases h
theorem compL2_cons {x : Val} {xs r : List Val} (h : compL2 put tt it1 own1 put1 tt1 el env (x :: xs) = .ok r) :
    ∃ e b, put x env = .ok e ∧ tt e = .ok b ∧ ((b = true ∧ ∃ ys r1 r2, it1 e = .ok ys ∧ compL put1 tt1 el (wipeE e own1) ys = .ok r1 ∧ compL2 put tt it1 own1 put1 tt1 el env xs = .ok r2 ∧ r = r1 ++ r2) ∨ (b = false ∧ compL2 put tt it1 own1 put1 tt1 el env xs = .ok r)) := by
  unfold compL2 at h
  cases h1 : put x env with
  | bad => rw [h1] at h; cases h
  | exc q => rw [h1] at h; cases h
  | ok e =>
    rw [h1] at h
    simp only [Res.nx, Res.bind_ok] at h
    cases h2 : tt e with
    | bad => rw [h2] at h; cases h
    | exc q => rw [h2] at h; cases h
    | ok b =>
      rw [h2] at h
      simp only [Res.nx, Res.bind_ok] at h
      refine ⟨e, b, rfl, h2, ?_⟩
      cases b with
      | false => exact .inr ⟨rfl, h⟩
      | true =>
        simp only [cond_true] at h
        cases h3 : it1 e with
        | bad => rw [h3] at h; cases h
        | exc q => rw [h3] at h; cases h
        | ok ys =>
          rw [h3] at h
          simp only [Res.nx, Res.bind_ok] at h
          cases h4 : compL put1 tt1 el (wipeE e own1) ys with
          | bad => rw [h4] at h; cases h
          | exc q' => exact absurd h4 (compL_nx _ _)
          | ok r1 =>
            rw [h4] at h
            simp only [Res.bind_ok] at h
            cases h5 : compL2 put tt it1 own1 put1 tt1 el env xs with
            | bad => rw [h5] at h; cases h
            | exc q' => exact absurd h5 (compL2_nx _ _)
            | ok r2 =>
              rw [h5] at h
              simp only [Res.bind_ok] at h
              cases h
              exact .inl ⟨rfl, ys, r1, r2, rfl, h4, rfl, rfl⟩
end
section
variable {K : PySem.W.Frag} {C : Cn}
/-- the new list at D, its members so far; N' stays -/
def CP (K : PySem.W.Frag) (N1 H1 : Hp) (D : Addr) (acc : List V) (ys : List Val) (N' H' : Hp) : Prop := ∃ Hn, Gr N1 H1 N' Hn ∧ Hn D = none ∧ H' = upd Hn D (.lst acc) ∧ RVs K N' acc ys
section
variable {N1 H1 N' H' : Hp} {D : Addr} {acc : List V} {ys : List Val}
theorem CP.sub (p : CP K N1 H1 D acc ys N' H') : Sub N' H' := by
  obtain ⟨Hn, g, hn, rfl, _⟩ := p
  intro a o q
  have := g.nh a o q
  rw [upd_ne (ne_of_none this hn)]
  exact this
theorem CP.nn (p : CP K N1 H1 D acc ys N' H') : Sub N1 N' := by
  obtain ⟨Hn, g, hn, rfl, _⟩ := p
  exact g.nn
theorem CP.at (p : CP K N1 H1 D acc ys N' H') : H' D = some (.lst acc) := by
  obtain ⟨Hn, g, hn, rfl, _⟩ := p
  exact upd_same
theorem CP.turn (hD : H1 D = none) (p : CP K N1 H1 D acc ys N' H') {N0 Nx Hx : Hp} (e0 : Sub N0 N') (gx : Gr N0 H' Nx Hx) :
    ∃ Nu, Sub Nx Nu ∧ Sub N' Nu ∧ Sub Nu Hx ∧ ∀ N4 H4, Gr Nu Hx N4 H4 → CP K N1 H1 D acc ys N4 H4 := by
  have sb' := p.sub
  have hAt := p.at
  obtain ⟨Hn, g2, hn, rfl, rv⟩ := p
  let Nu : Hp := fun a => if Nx a = none then N' a else Nx a
  have u1 : Sub Nx Nu := fun a o q => by show (if Nx a = none then N' a else Nx a) = some o; rw [if_neg (by rw [q]; simp)]; exact q
  have u2 : Sub Nu Hx := fun a o q => by
    have q' : (if Nx a = none then N' a else Nx a) = some o := q
    by_cases hz : Nx a = none
    · rw [if_pos hz] at q'; exact gx.hh a o (sb' a o q')
    · rw [if_neg hz] at q'; exact gx.nh a o q'
  have u3 : Sub N' Nu := fun a o q => by
    show (if Nx a = none then N' a else Nx a) = some o
    by_cases hz : Nx a = none
    · rw [if_pos hz]; exact q
    · rw [if_neg hz]
      cases hq : Nx a with
      | none => exact absurd hq hz
      | some o' =>
        have h1 := gx.nh a o' hq
        have h2 := gx.hh a o (sb' a o q)
        rw [h1] at h2
        exact h2
  have nD : N' D = none := by
    cases hq : N' D with
    | none => rfl
    | some o => have := g2.nh D o hq; rw [hn] at this; cases this
  have u4 : ∀ a, Nu a ≠ none → N' a ≠ none ∨ (Hn a = none ∧ a ≠ D) := fun a q => by
    have q' : (if Nx a = none then N' a else Nx a) ≠ none := q
    by_cases hz : Nx a = none
    · rw [if_pos hz] at q'; exact .inl q'
    · rcases gx.nw a hz with h1 | h1
      · cases hq : N0 a with
        | none => exact absurd hq h1
        | some o => exact .inl (by rw [e0 a o hq]; simp)
      · right
        have hne : a ≠ D := fun z => by rw [z, upd_same] at h1; cases h1
        refine ⟨?_, hne⟩
        rw [upd_ne hne] at h1
        exact h1
  have hDx : Hx D = some (.lst acc) := gx.hh D _ upd_same
  refine ⟨Nu, u1, u3, u2, fun N4 H4 g4 => ?_⟩
  have n4 : N4 D = none := by
    cases hq : N4 D with
    | none => rfl
    | some o =>
      rcases g4.nw D (by rw [hq]; simp) with h1 | h1
      · rcases u4 D h1 with h2 | h2
        · exact absurd nD h2
        · exact absurd rfl h2.2
      · rw [hDx] at h1; cases h1
  refine ⟨fun a => if a = D then none else H4 a, ⟨fun a o q => ?_, fun a o q => g4.nn a o (u3 a o (g2.nn a o q)), fun a o q => ?_, fun a q => ?_⟩, if_pos rfl, ?_, rv.mono fun a o q => g4.nn a o (u3 a o q)⟩
  · have hne : a ≠ D := ne_of_none q hD
    show (if a = D then none else H4 a) = some o
    rw [if_neg hne]
    refine g4.hh a o (gx.hh a o ?_)
    rw [upd_ne hne]
    exact g2.hh a o q
  · show (if a = D then none else H4 a) = some o
    rw [if_neg (fun z => by rw [z, n4] at q; cases q)]
    exact g4.nh a o q
  · rcases g4.nw a q with h1 | h1
    · rcases u4 a h1 with h2 | h2
      · exact g2.nw a h2
      · exact .inr (g2.hh.free h2.1)
    · right
      cases hq : H1 a with
      | none => rfl
      | some o =>
        have h2 := g2.hh a o hq
        have hne : a ≠ D := ne_of_none h2 hn
        have := gx.hh a o (by rw [upd_ne hne]; exact h2)
        rw [h1] at this
        cases this
  · funext a
    unfold upd
    by_cases ha : a = D
    · rw [if_pos ha, ha]; exact g4.hh D _ hDx
    · rw [if_neg ha]
      exact (if_neg ha).symm
theorem CP.push (hD : H1 D = none) (p : CP K N1 H1 D acc ys N' H') {v : V} {y : Val} (rv : RV K N' v y) : CP K N1 H1 D (acc ++ [v]) (ys ++ [y]) N' (upd H' D (.lst (acc ++ [v]))) := by
  obtain ⟨Hn, g, hn, rfl, r⟩ := p
  refine ⟨Hn, g, hn, ?_, r.append (.cons rv .nil)⟩
  funext a
  unfold upd
  by_cases ha : a = D
  · rw [if_pos ha, if_pos ha]
  · rw [if_neg ha, if_neg ha, if_neg ha]
theorem CP.start (hD : H1 D = none) (g : Sub N1 H1) : CP K N1 H1 D [] [] N1 (upd H1 D (.lst [])) := ⟨H1, Gr.refl g, hD, rfl, .nil⟩
end
/-- any loop over a walk -/
theorem walk_W {J : It} {n : Nat} {G : Hp → Prop} {Y : Nat → Hp → V → Hp → Prop} (w : Walk J n G Y) {H1 : Hp} {Qd : Hp → Prop} {T : V → Hp → (Hp → Prop) → Prop} (Pv : Nat → Hp → Prop) (h0 : Pv 0 H1) (hG : ∀ i H, i ≤ n → Pv i H → G H)
    (hs : ∀ i x H H', i < n → Pv i H → Y i H x H' → T x H' (Pv (i + 1))) (hd : ∀ H, Pv n H → Qd H) :
    ∃ W : Nat → Nat → Hp → Prop, (∃ m, W 0 m H1) ∧ ∀ i m H, W i m H →
      (J.stop i H ∧ Qd H) ∨ (J.go i H ∧ ∃ Nx : Hp → Prop, (∀ H', Nx H' → ∃ m', m' < m ∧ W (i + 1) m' H') ∧ ∀ x H', J.yld i H x H' → T x H' Nx) := by
  refine ⟨fun i m H => m = n - i ∧ i ≤ n ∧ Pv i H, ⟨n, by simp, Nat.zero_le _, h0⟩, ?_⟩
  rintro i m H ⟨rfl, hi, p⟩
  have q := hG i H hi p
  by_cases hlt : i < n
  · refine .inr ⟨w.goes i H hlt q, Pv (i + 1), fun H' p' => ⟨n - (i + 1), by omega, rfl, hlt, p'⟩, fun x H' y => hs i x H H' hlt p (w.yields i H x H' hlt q y)⟩
  · have e : i = n := by omega
    subst e
    exact .inl ⟨w.stops H q, hd H p⟩
theorem ef_comp2 {wi wi1 : TI} {it it1 : EI} {g g1 : TG} {put put1 : Put} {is is1 own own1 : List Nat} {tt tt1 : TT} {te : TE} {mt mt1 : EB} {me : EX} (hi : EvI K C wi it) (hp : EvP K g put is) (hsub : ∀ i ∈ is, i ∈ own)
    (ht : EvB K (C0 C) tt mt) (hi1 : EvI K (C0 C) wi1 it1) (hp1 : EvP K g1 put1 is1) (hsub1 : ∀ i ∈ is1, i ∈ own1) (ht1 : EvB K (C0 C) tt1 mt1) (he : EvE K (C0 C) te me) :
    EvF K C (tLc2 wi g tt wi1 g1 tt1 te own own1) (eComp2 it own put mt it1 own1 put1 mt1 me) := fun N H σ env e s Q h => by
  refine hi N H σ env e s _ (PostR.imp (PostR.bind h) fun xs N1 H1 g1 h1 J hJ => ?_)
  intro D hD
  obtain ⟨G, Y, w, hG, hY⟩ := hJ
  cases hc : compL2 put mt it1 own1 put1 mt1 me (wipeE env own) xs with
  | bad => rw [hc] at h1; exact h1.elim
  | exc q => exact absurd hc (compL2_nx _ _)
  | ok r =>
    rw [hc] at h1
    replace h1 : PostR C σ N1 H1 (if r.length ≤ 16777216 then .ok (Val.lst r) else .bad) _ := h1
    split at h1
    case isFalse => exact h1.elim
    rename_i hsz
    have fin : ∀ N' H', Gr N1 H1 N' H' → ∀ p vs, H' p = none → RVs K N' vs r → Q (.ref p) (upd H' p (.lst vs)) := fun N' H' g p vs => by
      obtain ⟨ys, e1, h2⟩ := (show ∀ N' H', Gr N1 H1 N' H' → ∃ ys, Val.lst r = .lst ys ∧ ∀ p vs, H' p = none → RVs K N' vs ys → Q (.ref p) (upd H' p (.lst vs)) from h1) N' H' g
      cases e1
      exact h2 p vs
    have s1 : SV K N1 σ env := s.mono g1.nn
    refine walk_W w (fun i H' => ∃ N' acc ys rest, CP K N1 H1 D acc ys N' H' ∧ compL2 put mt it1 own1 put1 mt1 me (wipeE env own) (xs.drop i) = .ok rest ∧ ys ++ rest = r)
      ⟨N1, [], [], r, CP.start hD g1.nh, by rw [List.drop_zero]; exact hc, rfl⟩ (fun i H' _ ⟨N', acc, ys, rest, p, _, _⟩ => hG H' fun a o q => p.sub a o (p.nn a o q)) ?_ ?_
    · rintro i x Hi Hx hi ⟨N', acc, ys, rest, p, hrest, hr⟩ y
      obtain ⟨Nx, xv, gx, hxi, rx⟩ := hY i _ x Hx hi (fun a o q => p.sub a o (p.nn a o q)) y
      obtain ⟨Nu, u1, u3, u2, back⟩ := p.turn hD p.nn gx
      rw [List.drop_eq_getElem_cons hi] at hrest
      have hxe : xs[i] = xv := by rw [List.getElem?_eq_getElem hi] at hxi; exact Option.some.inj hxi
      rw [hxe] at hrest
      obtain ⟨e1, b, hput, hb, hways⟩ := compL2_cons hrest
      refine hp Nu Hx (L2.wipe σ own) (wipeE env own) x xv e1 u2 (rx.mono u1) hput _ fun l0 hl he1 => ?_
      refine ⟨by rw [wipe_sets (fun t ht => hsub _ (hl t ht).1), wipe_wipe fun v hv => hv], ?_⟩
      have s2 : SV K Nu (setsS (L2.wipe σ own) l0) e1 := by
        rw [he1]
        exact ((s1.mono (fun a o q => u3 a o (p.nn a o q))).wipe own).sets fun t ht => (hl t ht).2
      refine ht Nu Hx _ e1 u2 s2 _ ?_
      rw [hb]
      intro N3 H3 g3
      have p3 := back N3 H3 g3
      rcases hways with ⟨rfl, zs, r1, r2, hit, hr1, hr2, hrr⟩ | ⟨rfl, hr'⟩
      · show wi1 _ H3 _
        refine hi1 N3 H3 _ e1 g3.nh (s2.mono g3.nn) _ ?_
        rw [hit]
        intro N4 H4 g4 J1 hJ1
        have p4 := back N4 H4 (g3.trans g4)
        have s4 : SV K N4 (setsS (L2.wipe σ own) l0) e1 := (s2.mono g3.nn).mono g4.nn
        obtain ⟨G1, Y1, w1, hG1, hY1⟩ := hJ1
        refine walk_W w1 (fun j H' => ∃ N' acc ys rest, CP K N1 H1 D acc ys N' H' ∧ Sub N4 N' ∧ compL put1 mt1 me (wipeE e1 own1) (zs.drop j) = .ok rest ∧ ys ++ (rest ++ r2) = r)
          ⟨N4, acc, ys, r1, p4, fun _ _ q => q, by rw [List.drop_zero]; exact hr1, by rw [← hr, hrr]⟩ (fun j H' _ ⟨N', acc, ys, rest, p, e, _, _⟩ => hG1 H' fun a o q => p.sub a o (e a o q)) ?_ ?_
        · rintro j x Hj Hx hj ⟨N', acc, ys, rest, p, e4, hrest, hr⟩ y
          obtain ⟨Nx, xv, gx, hxi, rx⟩ := hY1 j _ x Hx hj (fun a o q => p.sub a o (e4 a o q)) y
          obtain ⟨Nu, u1, u3, u2, back⟩ := p.turn hD e4 gx
          rw [List.drop_eq_getElem_cons hj] at hrest
          have hxe : zs[j] = xv := by rw [List.getElem?_eq_getElem hj] at hxi; exact Option.some.inj hxi
          rw [hxe] at hrest
          obtain ⟨e5, b, hput, hb, hways⟩ := compL_cons hrest
          refine hp1 Nu Hx (L2.wipe (setsS (L2.wipe σ own) l0) own1) (wipeE e1 own1) x xv e5 u2 (rx.mono u1) hput _ fun l hl he1 => ?_
          refine ⟨by rw [wipe_sets (fun t ht => hsub1 _ (hl t ht).1), wipe_wipe fun v hv => hv], ?_⟩
          have s5 : SV K Nu (setsS (L2.wipe (setsS (L2.wipe σ own) l0) own1) l) e5 := by
            rw [he1]
            exact ((s4.mono (fun a o q => u3 a o (e4 a o q))).wipe own1).sets fun t ht => (hl t ht).2
          refine ht1 Nu Hx _ e5 u2 s5 _ ?_
          rw [hb]
          intro N6 H6 g6
          rcases hways with ⟨rfl, yv, r', hel, hr', hrr'⟩ | ⟨rfl, hr'⟩
          · show te _ H6 _
            refine he N6 H6 _ e5 g6.nh (s5.mono g6.nn) _ ?_
            rw [hel]
            intro N7 H7 g7 v rv
            have p7 := back N7 H7 (g6.trans g7)
            have hlen : acc.length < 16777216 := by
              obtain ⟨Hn, _, _, _, rvs⟩ := p7
              have h2 : acc.length = ys.length := rvs.length
              have h3 : r.length = ys.length + (rest.length + r2.length) := by rw [← hr]; simp only [List.length_append]
              have h4 : rest.length = r'.length + 1 := by rw [hrr']; rfl
              omega
            refine ⟨acc, p7.at, Nat.lt_of_lt_of_le hlen (by rw [line_eq]; exact Nat.le_refl _), N7, acc ++ [v], ys ++ [yv], r', p7.push hD rv, fun a o q => g7.nn a o (g6.nn a o (u3 a o (e4 a o q))), hr', by rw [← hr, hrr', List.append_assoc]; rfl⟩
          · exact ⟨N6, acc, ys, rest, back N6 H6 g6, fun a o q => g6.nn a o (u3 a o (e4 a o q)), hr', hr⟩
        · rintro H' ⟨N', acc, ys, rest, p, e4, hrest, hr⟩
          rw [List.drop_length] at hrest
          cases hrest
          exact ⟨N', acc, ys, r2, p, hr2, hr⟩
      · exact ⟨N3, acc, ys, rest, p3, hr', hr⟩
    · rintro H' ⟨N', acc, ys, rest, ⟨Hn, g2, hn, rfl, hacc⟩, hrest, hr⟩
      rw [List.drop_length] at hrest
      cases hrest
      rw [List.append_nil] at hr
      subst hr
      exact fin N' Hn g2 D acc hn hacc
end
section
variable {X : Cx} {C : Cn} {a b c : Expr} {ta tb tc : TE} {ma mb mc : EX} {pos p : Pos} {es : List Expr}
theorem sf_comp2 {tt tt1 : TT} {mt mt1 : EB} {elt tg iter tg1 iter1 : Expr} {ifs ifs1 : List Expr} {scope : Scope} {own : List (Str × Nat)} {own1 : List Nat} {wi wi1 : TI} {it it1 : EI} {g g1 : TG} {put put1 : Put} {is is1 : List Nat} {te : TE} {me : EX} (F : Fr X C) (hi : SI X C tg iter wi it) (hp : inBlk X scope fun Y => STg Y tg g put is) (ht : inBlk X scope fun Y => STt Y (C0 C) ifs tt mt)
    (hi1 : inBlk X scope fun Y => SI Y (C0 C) tg1 iter1 wi1 it1) (hp1 : inBlk X scope fun Y => STg Y tg1 g1 put1 is1) (ht1 : inBlk X scope fun Y => STt Y (C0 C) ifs1 tt1 mt1)
    (he : inBlk X scope fun Y => SE Y (C0 C) elt te me) (hsub : ∀ i ∈ is, i ∈ own.map (·.2) := by decide) (hsub1 : ∀ i ∈ is1, i ∈ own1 := by decide) (hv : ∀ i ∈ own1, i ∈ own.map (·.2) := by decide) (hN : X.N.Nodup := by assumption) (ok : BlkOk X.N X.env.scope scope own := by exact blkOk_by (by rfl)) (hs : ∀ x, foldedSetIterable iter X.env x = pure x := by intro _; rfl) (hs1 : ∀ env x, foldedSetIterable iter1 env x = pure x := by intro _ _; rfl) :
    SF X C (.ListComp elt [⟨tg, iter, ifs, 0⟩, ⟨tg1, iter1, ifs1, 0⟩] scope pos) (tLc2 wi g tt wi1 g1 tt1 te (own.map (·.2)) own1) (eComp2 it (own.map (·.2)) put mt it1 own1 put1 mt1 me) :=
  ⟨pe_lc2 F.ca hN hi.pi ok hv (fun s H Cc cl fp => (hp s H Cc cl fp).pe) (fun s H Cc cl fp => (ht s H Cc cl fp).pe) (fun s H Cc cl fp => (hi1 s H Cc cl fp).pi) (fun s H Cc cl fp => (hp1 s H Cc cl fp).pe) (fun s H Cc cl fp => (ht1 s H Cc cl fp).pe) (fun s H Cc cl fp => (he s H Cc cl fp).pe) hs hs1,
   ef_comp2 hi.ev (hp X.s_0 X.H_0 0 [] []).ev hsub (ht X.s_0 X.H_0 0 [] []).ev (hi1 X.s_0 X.H_0 0 [] []).ev (hp1 X.s_0 X.H_0 0 [] []).ev hsub1 (ht1 X.s_0 X.H_0 0 [] []).ev (he X.s_0 X.H_0 0 [] []).ev⟩
theorem sfc_comp2 {tt tt1 : TT} {mt mt1 : EB} {elt tg iter tg1 iter1 : Expr} {ifs ifs1 : List Expr} {scope : Scope} {own : List (Str × Nat)} {own1 : List Nat} {wi wi1 : TI} {it it1 : EI} {g g1 : TG} {put put1 : Put} {is is1 : List Nat} {te : TE} {me : EX} (F : Fr X C) (hi : SI X C tg iter wi it) (hp : inBlk X scope fun Y => STg Y tg g put is) (ht : inBlk X scope fun Y => STt Y (C0 C) ifs tt mt)
    (hi1 : inBlk X scope fun Y => SI Y (C0 C) tg1 iter1 wi1 it1) (hp1 : inBlk X scope fun Y => STg Y tg1 g1 put1 is1) (ht1 : inBlk X scope fun Y => STt Y (C0 C) ifs1 tt1 mt1)
    (he : inBlk X scope fun Y => SE Y (C0 C) elt te me) (hsub : ∀ i ∈ is, i ∈ own.map (·.2) := by decide) (hsub1 : ∀ i ∈ is1, i ∈ own1 := by decide) (hv : ∀ i ∈ own1, i ∈ own.map (·.2) := by decide) (hN : X.N.Nodup := by assumption) (ok : BlkOk X.N X.env.scope scope own := by exact blkOk_by (by rfl)) (hs : ∀ x, foldedSetIterable iter X.env x = pure x := by intro _; rfl) (hs1 : ∀ env x, foldedSetIterable iter1 env x = pure x := by intro _ _; rfl) :
    SFc X C (.ListComp elt [⟨tg, iter, ifs, 0⟩, ⟨tg1, iter1, ifs1, 0⟩] scope pos) (tLc2 wi g tt wi1 g1 tt1 te (own.map (·.2)) own1) (eComp2 it (own.map (·.2)) put mt it1 own1 put1 mt1 me) :=
  ⟨sf_comp2 F hi hp ht hi1 hp1 ht1 he hsub hsub1 hv hN ok hs hs1, fun i y py spos hN' hy hyl hsw => ps_setLc2 F.ca hN' hy hyl hsw hi.pi ok hv (fun s H Cc cl fp => (hp s H Cc cl fp).pe) (fun s H Cc cl fp => (ht s H Cc cl fp).pe) (fun s H Cc cl fp => (hi1 s H Cc cl fp).pi) (fun s H Cc cl fp => (hp1 s H Cc cl fp).pe) (fun s H Cc cl fp => (ht1 s H Cc cl fp).pe) (fun s H Cc cl fp => (he s H Cc cl fp).pe) hs hs1⟩
theorem comp2_lst {it it1 : EI} {own own1 : List Nat} {put put1 : Put} {mt mt1 : EB} {me : EX} (env : Env) (x : Val) (h : eComp2 it own put mt it1 own1 put1 mt1 me env = .ok x) : ∃ xs, x = .lst xs := by
  unfold eComp2 at h
  cases hm : it env with
  | ok ys =>
    rw [hm] at h
    simp only [Res.bind_ok] at h
    cases hq : compL2 put mt it1 own1 put1 mt1 me (wipeE env own) ys with
    | ok r => 
      rw [hq] at h
      simp only [Res.bind_ok] at h
      split at h
      · cases h; exact ⟨_, rfl⟩
      · cases h
    | exc e => rw [hq] at h; cases h
    | bad => rw [hq] at h; cases h
  | exc e => rw [hm] at h; cases h
  | bad => rw [hm] at h; cases h
theorem SF.comp2 {it it1 : EI} {own own1 : List Nat} {put put1 : Put} {mt mt1 : EB} {te : TE} {me : EX} (h : SF X C a te (eComp2 it own put mt it1 own1 put1 mt1 me)) : SE X C a te (eComp2 it own put mt it1 own1 put1 mt1 me) := ⟨h.pe, EvF.e comp2_lst h.ev⟩
theorem ss_setLc2 (i : Nat) {x : Str} {it it1 : EI} {own own1 : List Nat} {put put1 : Put} {mt mt1 : EB} {me : EX} (h : SFc X C a ta (eComp2 it own put mt it1 own1 put1 mt1 me)) (hs : swapsWith a (some (.Name x p)) pos.line X.env = pure true := by exact sw_true rfl rfl rfl (by decide +kernel)) (hN : X.N.Nodup := by assumption) (hi : X.N[i]? = some x := by rfl) (hx : X.env.scope.names.lookup x = some .local := by rfl) :
    SSt X C (.Assign [.Name x p] a pos) (tAsg ta (gName i)) (sSet i (eComp2 it own put mt it1 own1 put1 mt1 me)) := ⟨h.as i x p pos hN hi hx hs, es_set (EvF.e comp2_lst h.sf.ev)⟩
theorem ss_setLc2N (i : Nat) {x : Str} {it it1 : EI} {own own1 : List Nat} {put put1 : Put} {mt mt1 : EB} {me : EX} (h : SFc X C a ta (eComp2 it own put mt it1 own1 put1 mt1 me)) (hs : swapsWith a (some (.Name x p)) pos.line X.env = pure true := by exact sw_true rfl rfl rfl (by decide +kernel)) (hN : X.N.Nodup := by assumption) (hi : X.N[i]? = some x := by rfl) (hx : X.env.scope.names.lookup x = some .local := by rfl) :
    SSt X C (.Assign [.Name x p] a pos) (tAsg ta (gName i)) (sSetN i (eComp2 it own put mt it1 own1 put1 mt1 me)) := ⟨h.as i x p pos hN hi hx hs, es_setN (EvF.e comp2_lst h.sf.ev)⟩
end
end Vm

/-! The value machine over HandS: trees that a slot owns, places in them. -/
namespace Vm
open PySem L2 PyProof.Rows
/-- a step into a tree -/
inductive Stp where
  | ix (j : Nat)
  | ky (k : Key)
  | fl (f : Str)
def lookK : List (Key × Tr) → Key → Option Tr
  | [], _ => none
  | (q, t) :: r, k => if q = k then some t else lookK r k
def modK (g : Tr → Tr) : List (Key × Tr) → Key → List (Key × Tr)
  | [], _ => []
  | (q, t) :: r, k => if q = k then (q, g t) :: r else (q, t) :: modK g r k
def lookF : List (Str × Tr) → Str → Option Tr
  | [], _ => none
  | (q, t) :: r, k => if q = k then some t else lookF r k
def modF (g : Tr → Tr) : List (Str × Tr) → Str → List (Str × Tr)
  | [], _ => []
  | (q, t) :: r, k => if q = k then (q, g t) :: r else (q, t) :: modF g r k
def modL (g : Tr → Tr) : List Tr → Nat → List Tr
  | [], _ => []
  | t :: r, 0 => g t :: r
  | t :: r, j + 1 => t :: modL g r j
def getAt : List Stp → Tr → Option Tr
  | [], t => some t
  | .ix j :: p, .l ts => (match ts[j]? with
    | some t => getAt p t
    | none => none)
  | .ky k :: p, .d ts => (match lookK ts k with
    | some t => getAt p t
    | none => none)
  | .fl f :: p, .o _ ts => (match lookF ts f with
    | some t => getAt p t
    | none => none)
  | _, _ => none
def setAt : List Stp → Tr → Tr → Tr
  | [], u, _ => u
  | .ix j :: p, u, .l ts => .l (modL (setAt p u) ts j)
  | .ky k :: p, u, .d ts => .d (modK (setAt p u) ts k)
  | .fl f :: p, u, .o c ts => .o c (modF (setAt p u) ts f)
  | _, _, t => t
/-- where the things of a tree stand -/
def addrAt (H : Hp) : List Stp → V → Option V
  | [], v => some v
  | .ix j :: p, .ref a => (match H a with
    | some (.lst vs) => (match vs[j]? with
      | some v => addrAt H p v
      | none => none)
    | _ => none)
  | .ky k :: p, .ref a => (match H a with
    | some (.dK vs) => (match valV vs k with
      | some v => addrAt H p v
      | none => none)
    | _ => none)
  | .fl f :: p, .ref a => (match H a with
    | some (.ins _ _ vs) => (match vs.lookup f with
      | some v => addrAt H p v
      | none => none)
    | _ => none)
  | _, _ => none
section
variable {K : PySem.W.Frag} {M H : Hp}
theorem addrAt_mono {H' : Hp} (e : Sub H H') : ∀ (p : List Stp) {v w : V}, addrAt H p v = some w → addrAt H' p v = some w
  | [], v, w, h => h
  | .ix j :: p, v, w, h => by
    cases v with
    | ref a =>
      unfold addrAt at h ⊢
      cases hq : H a with
      | none => rw [hq] at h; cases h
      | some o =>
        rw [hq] at h
        rw [e a o hq]
        cases o with
        | lst vs =>
          simp only at h ⊢
          cases hj : vs[j]? with
          | none => rw [hj] at h; cases h
          | some u => rw [hj] at h; exact addrAt_mono e p h
        | _ => cases h
    | _ => cases h
  | .ky k :: p, v, w, h => by
    cases v with
    | ref a =>
      unfold addrAt at h ⊢
      cases hq : H a with
      | none => rw [hq] at h; cases h
      | some o =>
        rw [hq] at h
        rw [e a o hq]
        cases o with
        | dK vs =>
          simp only at h ⊢
          cases hj : valV vs k with
          | none => rw [hj] at h; cases h
          | some u => rw [hj] at h; exact addrAt_mono e p h
        | _ => cases h
    | _ => cases h
  | .fl f :: p, v, w, h => by
    cases v with
    | ref a =>
      unfold addrAt at h ⊢
      cases hq : H a with
      | none => rw [hq] at h; cases h
      | some o =>
        rw [hq] at h
        rw [e a o hq]
        cases o with
        | ins C dx vs =>
          simp only at h ⊢
          cases hj : vs.lookup f with
          | none => rw [hj] at h; cases h
          | some u => rw [hj] at h; exact addrAt_mono e p h
        | _ => cases h
    | _ => cases h
theorem RTl.foc : ∀ (ts : List Tr) {vs : List V} {f : List Addr} {j : Nat} {t : Tr}, RTl K M H vs ts f → ts[j]? = some t → ∃ v f1 f' f2, vs[j]? = some v ∧ RT K M H v t f' ∧ f = f1 ++ (f' ++ f2) ∧
    ∀ {M' H' : Hp} {g : Tr → Tr} {f'' : List Addr}, Sub M M' → (∀ a ∈ f1 ++ f2, H' a = H a) → RT K M' H' v (g t) f'' → RTl K M' H' vs (modL g ts j) (f1 ++ (f'' ++ f2))
  | [], _, _, j, _, _, h => by simp at h
  | t :: ts, _, _, 0, t', .cons (f := f) (fs := fs) r r', h => by
    simp at h
    subst h
    refine ⟨_, [], f, fs, rfl, r, rfl, fun em eh q => ?_⟩
    rw [List.nil_append]
    exact .cons q (RTl.mono em ts (fun a ha => eh a (by simpa using ha)) r')
  | t :: ts, _, _, j + 1, t', .cons (f := f) (fs := fs) r r', h => by
    obtain ⟨v, f1, f', f2, h1, h2, h3, h4⟩ := RTl.foc ts r' (j := j) (t := t') (by simpa using h)
    refine ⟨v, f ++ f1, f', f2, by simpa using h1, h2, by rw [h3, List.append_assoc], fun em eh q => ?_⟩
    rw [List.append_assoc]
    refine .cons (RT.mono em t (fun a ha => eh a (by simp [ha])) r) (h4 em (fun a ha => eh a ?_) q)
    simp only [List.mem_append] at ha ⊢
    rcases ha with ha | ha <;> simp [ha]
theorem RTd.foc : ∀ (ts : List (Key × Tr)) {vs : List (L2.Key × V)} {f : List Addr} {k : Key} {t : Tr}, RTd K M H vs ts f → lookK ts k = some t → ∃ v f1 f' f2, valV vs k = some v ∧ RT K M H v t f' ∧ f = f1 ++ (f' ++ f2) ∧
    ∀ {M' H' : Hp} {g : Tr → Tr} {f'' : List Addr}, Sub M M' → (∀ a ∈ f1 ++ f2, H' a = H a) → RT K M' H' v (g t) f'' → RTd K M' H' vs (modK g ts k) (f1 ++ (f'' ++ f2))
  | [], _, _, k, _, _, h => by cases h
  | (q, t) :: ts, _, _, k, t', .cons (v := v) (vs := vs) (f := f) (fs := fs) r r', h => by
    unfold lookK at h
    split at h
    · rename_i hq
      cases h
      refine ⟨_, [], f, fs, ?_, r, rfl, fun em eh q' => ?_⟩
      · unfold valV; rw [List.find?_cons]; simp [hq]
      · unfold modK
        rw [if_pos hq, List.nil_append]
        exact .cons q' (RTd.mono em ts (fun a ha => eh a (by simpa using ha)) r')
    · rename_i hq
      obtain ⟨v', f1, f', f2, h1, h2, h3, h4⟩ := RTd.foc ts r' h
      refine ⟨v', f ++ f1, f', f2, ?_, h2, by rw [h3, List.append_assoc], fun em eh q' => ?_⟩
      · unfold valV at h1 ⊢; rw [List.find?_cons]; simp [hq, h1]
      · unfold modK
        rw [if_neg hq, List.append_assoc]
        refine .cons (RT.mono em t (fun a ha => eh a (by simp [ha])) r) (h4 em (fun a ha => eh a ?_) q')
        simp only [List.mem_append] at ha ⊢
        rcases ha with ha | ha <;> simp [ha]
theorem RTo.foc : ∀ (ts : List (Str × Tr)) {vs : List (Str × V)} {f : List Addr} {k : Str} {t : Tr}, RTo K M H vs ts f → lookF ts k = some t → ∃ v f1 f' f2, vs.lookup k = some v ∧ RT K M H v t f' ∧ f = f1 ++ (f' ++ f2) ∧
    ∀ {M' H' : Hp} {g : Tr → Tr} {f'' : List Addr}, Sub M M' → (∀ a ∈ f1 ++ f2, H' a = H a) → RT K M' H' v (g t) f'' → RTo K M' H' vs (modF g ts k) (f1 ++ (f'' ++ f2))
  | [], _, _, k, _, _, h => by cases h
  | (q, t) :: ts, _, _, k, t', .cons (v := v) (vs := vs) (f := f) (fs := fs) r r', h => by
    unfold lookF at h
    split at h
    · rename_i hq
      cases h
      subst hq
      refine ⟨_, [], f, fs, by rw [List.lookup_cons]; simp, r, rfl, fun em eh q' => ?_⟩
      unfold modF
      rw [if_pos rfl, List.nil_append]
      exact .cons q' (RTo.mono em ts (fun a ha => eh a (by simpa using ha)) r')
    · rename_i hq
      obtain ⟨v', f1, f', f2, h1, h2, h3, h4⟩ := RTo.foc ts r' h
      refine ⟨v', f ++ f1, f', f2, ?_, h2, by rw [h3, List.append_assoc], fun em eh q' => ?_⟩
      · rw [List.lookup_cons]
        have : (k == q) = false := by rw [beq_eq_false_iff_ne]; exact fun z => hq z.symm
        rw [this]; exact h1
      · unfold modF
        rw [if_neg hq, List.append_assoc]
        refine .cons (RT.mono em t (fun a ha => eh a (by simp [ha])) r) (h4 em (fun a ha => eh a ?_) q')
        simp only [List.mem_append] at ha ⊢
        rcases ha with ha | ha <;> simp [ha]
theorem RT.foc : ∀ (p : List Stp) {v : V} {t t' : Tr} {f : List Addr}, RT K M H v t f → getAt p t = some t' → ∃ v' f1 f' f2, addrAt H p v = some v' ∧ RT K M H v' t' f' ∧ f = f1 ++ (f' ++ f2) ∧
    ∀ {M' H' : Hp} {u : Tr} {f'' : List Addr}, Sub M M' → (∀ a ∈ f1 ++ f2, H' a = H a) → RT K M' H' v' u f'' → RT K M' H' v (setAt p u t) (f1 ++ (f'' ++ f2))
  | [], w, t, t', f, r, h => by
    cases h
    refine ⟨w, [], f, [], rfl, r, by simp, fun em eh q => ?_⟩
    show RT K _ _ w _ ([] ++ (_ ++ []))
    rw [List.nil_append, List.append_nil]
    exact q
  | .ix j :: p, _, _, t', _, .l (a := a) (vs := vs) (ts := ts) ha r, h => by
    unfold getAt at h
    split at h
    · rename_i t hj
      obtain ⟨v, f1, f', f2, h1, h2, h3, h4⟩ := RTl.foc ts r hj
      obtain ⟨v', g1, g', g2, k1, k2, k3, k4⟩ := RT.foc p h2 h
      subst k3; subst h3
      refine ⟨v', a :: (f1 ++ g1), g', g2 ++ f2, by unfold addrAt; rw [ha]; simp only [h1]; exact k1, k2, by simp, fun {M' H' u f''} em eh q => ?_⟩
      have hR := h4 (M' := M') (H' := H') (g := setAt p u) (f'' := g1 ++ (f'' ++ g2)) em (fun b hb => eh b (by simp only [List.mem_append] at hb; simp only [List.cons_append, List.mem_cons, List.mem_append]; rcases hb with hb | hb <;> simp [hb])) (k4 em (fun b hb => eh b (by simp only [List.mem_append] at hb; simp only [List.cons_append, List.mem_cons, List.mem_append]; rcases hb with hb | hb <;> simp [hb])) q)
      have := RT.l (K := K) (M := M') (H := H') (by rw [eh a (by simp)]; exact ha) hR
      show RT K M' H' (V.ref a) (.l (modL (setAt p u) ts j)) _
      simpa [List.append_assoc] using this
    · cases h
  | .ky k :: p, _, _, t', _, .d (a := a) (vs := vs) (ts := ts) ha r, h => by
    unfold getAt at h
    split at h
    · rename_i t hj
      obtain ⟨v, f1, f', f2, h1, h2, h3, h4⟩ := RTd.foc ts r hj
      obtain ⟨v', g1, g', g2, k1, k2, k3, k4⟩ := RT.foc p h2 h
      subst k3; subst h3
      refine ⟨v', a :: (f1 ++ g1), g', g2 ++ f2, by unfold addrAt; rw [ha]; simp only [h1]; exact k1, k2, by simp, fun {M' H' u f''} em eh q => ?_⟩
      have hR := h4 (M' := M') (H' := H') (g := setAt p u) (f'' := g1 ++ (f'' ++ g2)) em (fun b hb => eh b (by simp only [List.mem_append] at hb; simp only [List.cons_append, List.mem_cons, List.mem_append]; rcases hb with hb | hb <;> simp [hb])) (k4 em (fun b hb => eh b (by simp only [List.mem_append] at hb; simp only [List.cons_append, List.mem_cons, List.mem_append]; rcases hb with hb | hb <;> simp [hb])) q)
      have := RT.d (K := K) (M := M') (H := H') (by rw [eh a (by simp)]; exact ha) hR
      show RT K M' H' (V.ref a) (.d (modK (setAt p u) ts k)) _
      simpa [List.append_assoc] using this
    · cases h
  | .fl k :: p, _, _, t', _, .o (a := a) (dx := dx) (c := c) (vs := vs) (ts := ts) ha hd r, h => by
    unfold getAt at h
    split at h
    · rename_i t hj
      obtain ⟨v, f1, f', f2, h1, h2, h3, h4⟩ := RTo.foc ts r hj
      obtain ⟨v', g1, g', g2, k1, k2, k3, k4⟩ := RT.foc p h2 h
      subst k3; subst h3
      refine ⟨v', a :: dx :: (f1 ++ g1), g', g2 ++ f2, by unfold addrAt; rw [ha]; simp only [h1]; exact k1, k2, by simp, fun {M' H' u f''} em eh q => ?_⟩
      have hR := h4 (M' := M') (H' := H') (g := setAt p u) (f'' := g1 ++ (f'' ++ g2)) em (fun b hb => eh b (by simp only [List.mem_append] at hb; simp only [List.cons_append, List.mem_cons, List.mem_append]; rcases hb with hb | hb <;> simp [hb])) (k4 em (fun b hb => eh b (by simp only [List.mem_append] at hb; simp only [List.cons_append, List.mem_cons, List.mem_append]; rcases hb with hb | hb <;> simp [hb])) q)
      have := RT.o (K := K) (M := M') (H := H') (by rw [eh a (by simp)]; exact ha) (by rw [eh dx (by simp)]; exact hd) hR
      show RT K M' H' (V.ref a) (.o c (modF (setAt p u) ts k)) _
      simpa [List.append_assoc] using this
    · cases h
  | .ix _ :: _, _, _, _, _, .v _, h => by cases h
  | .ix _ :: _, _, _, _, _, .d _ _, h => by cases h
  | .ix _ :: _, _, _, _, _, .dT _ _, h => by cases h
  | .ix _ :: _, _, _, _, _, .o _ _ _, h => by cases h
  | .ky _ :: _, _, _, _, _, .v _, h => by cases h
  | .ky _ :: _, _, _, _, _, .l _ _, h => by cases h
  | .ky _ :: _, _, _, _, _, .dT _ _, h => by cases h
  | .ky _ :: _, _, _, _, _, .o _ _ _, h => by cases h
  | .fl _ :: _, _, _, _, _, .v _, h => by cases h
  | .fl _ :: _, _, _, _, _, .l _ _, h => by cases h
  | .fl _ :: _, _, _, _, _, .d _ _, h => by cases h
  | .fl _ :: _, _, _, _, _, .dT _ _, h => by cases h
end
section
variable {K : PySem.W.Frag} {C : Cn} {B : Bs} {M H : Hp} {σ : L2.St} {env : Env} {fs : List Addr} {D : Ends}
def mkT : Bool → Tr → Slot
  | false, t => .oT t
  | true, t => .me t
theorem SlR1.tree {me : V} {s : Option V} {b : Bool} {t : Tr} {f : List Addr} (h : SlR1 K me M H s (mkT b t) f) : ∃ v, s = some v ∧ RT K M H v t f ∧ ∀ {M' H' : Hp} {t' : Tr} {f' : List Addr}, RT K M' H' v t' f' → SlR1 K me M' H' (some v) (mkT b t') f' := by
  cases b with
  | false =>
    cases h with
    | oT r => exact ⟨_, rfl, r, fun q => .oT q⟩
  | true =>
    cases h with
    | me r => exact ⟨_, rfl, r, fun q => .me q⟩
/-- a place of a slot's tree, and how it changes -/
theorem SR.foc (S : SR K B M H σ env fs) {i : Nat} {b : Bool} {t t' : Tr} {p : List Stp} (hi : env[i]? = some (mkT b t)) (hg : getAt p t = some t') : ∃ v0 v' f', σ[i]? = some (some v0) ∧ addrAt H p v0 = some v' ∧ RT K M H v' t' f' ∧ f'.Nodup ∧ (∀ a ∈ f', a ∈ fs) ∧
    ∀ {H' : Hp} {u : Tr} {f'' : List Addr}, (∀ a, a ∉ f' → ∀ o, H a = some o → H' a = some o) → RT K M H' v' u f'' → f''.Nodup → (∀ a ∈ f'', a ∈ f' ∨ H a = none) → ∃ fs', SR K B M H' σ (env.set i (mkT b (setAt p u t))) fs' := by
  obtain ⟨s0, g1, f, g2, h1, h2, h3, h4⟩ := S.sl.at hi
  obtain ⟨v, rfl, r, mk⟩ := h3.tree
  obtain ⟨v', f1, f', f2, k1, k2, k3, k4⟩ := RT.foc p r hg
  subst k3
  have nd := S.nd
  rw [h2] at nd
  have nd2 : (f1 ++ (f' ++ f2)).Nodup := (List.nodup_append.mp (List.nodup_append.mp nd).2.1).1
  have nd3 : f'.Nodup := (List.nodup_append.mp (List.nodup_append.mp nd2).2.1).1
  have sub : ∀ a ∈ f', a ∈ fs := fun a ha => by rw [h2]; simp [ha]
  refine ⟨v, v', f', h1, k1, k2, nd3, sub, fun {H' u f''} eh q nq fr => ?_⟩
  have hset : σ.set i (some v) = σ := by
    obtain ⟨hl, he⟩ := List.getElem?_eq_some_iff.mp h1
    rw [← he, List.set_getElem_self]
  have out : ∀ a, a ∈ fs → a ∉ f' → H' a = H a := fun a ha hn => by
    cases hq : H a with
    | none => exact absurd hq (S.sl.known a ha)
    | some o => rw [eh a hn o hq]
  have n1 : ∀ a ∈ f1 ++ f2, a ∉ f' := fun a ha hb => by
    rcases List.mem_append.mp ha with ha | ha
    · exact (List.nodup_append.mp nd2).2.2 a ha a (by simp [hb]) rfl
    · exact (List.nodup_append.mp (List.nodup_append.mp nd2).2.1).2.2 a hb a ha rfl
  have n2 : ∀ a ∈ g1 ++ g2, a ∉ f1 ++ (f' ++ f2) := fun a ha hb => by
    rcases List.mem_append.mp ha with ha | ha
    · exact (List.nodup_append.mp nd).2.2 a ha a (List.mem_append_left _ hb) rfl
    · exact (List.nodup_append.mp (List.nodup_append.mp nd).2.1).2.2 a hb a ha rfl
  have q2 := k4 (M' := M) (H' := H') (Same.refl _) (fun a ha => out a (by
    rw [h2]
    simp only [List.mem_append] at ha ⊢
    rcases ha with ha | ha <;> simp [ha]) (n1 a ha)) q
  have hsl := h4 (M' := M) (H' := H') (s' := some v) (e' := mkT b (setAt p u t)) (f' := f1 ++ (f'' ++ f2)) (Same.refl _) (fun a ha => out a (by
    rw [h2]
    simp only [List.mem_append] at ha ⊢
    rcases ha with ha | ha <;> simp [ha]) fun hb => n2 a ha (by simp [hb])) (mk q2)
  rw [hset] at hsl
  have newf : ∀ a ∈ f'', a ∈ fs → a ∈ f' := fun a ha hb => by
    rcases fr a ha with h | h
    · exact h
    · exact absurd h (S.sl.known a hb)
  refine ⟨_, ⟨fun b o qq => ?_, S.g.nn, fun b o qq => ?_, S.g.nw⟩, S.lo, fun a ha => ?_, ?_, hsl⟩
  · refine eh b (fun hb => ?_) o (S.g.hh b o qq)
    rw [(S.fr b (sub b hb)).2] at qq; cases qq
  · refine eh b (fun hb => ?_) o (S.g.nh b o qq)
    rw [(S.fr b (sub b hb)).1] at qq; cases qq
  · have : a ∈ fs ∨ a ∈ f'' := by
      rw [h2]
      simp only [List.mem_append] at ha ⊢
      rcases ha with ha | (ha | ha | ha) | ha <;> simp [ha]
    rcases this with h | h
    · exact S.fr a h
    · rcases fr a h with h' | h'
      · exact S.fr a (sub a h')
      · refine ⟨?_, S.g.hh.free h'⟩
        cases hq : M a with
        | none => rfl
        | some o => have := S.g.nh a o hq; rw [h'] at this; cases this
  · refine nodup_mid nd ?_ fun a ha hb => ?_
    · refine nodup_mid nd2 nq fun a ha hb => ?_
      exact n1 a hb (newf a ha (by
        rw [h2]
        simp only [List.mem_append] at hb ⊢
        rcases hb with hb | hb <;> simp [hb]))
    · simp only [List.mem_append] at ha
      have hfs : a ∈ fs := by
        rw [h2]
        simp only [List.mem_append] at hb ⊢
        rcases hb with hb | hb <;> simp [hb]
      rcases ha with ha | ha | ha
      · exact n2 a hb (by simp [ha])
      · exact n2 a hb (by simp [newf a ha hfs])
      · exact n2 a hb (by simp [ha])
/-- a slot gets a new tree of its own -/
theorem SR.putT (S : SR K B M H σ env fs) {i : Nat} (hi : i < env.length) {v : V} {t : Tr} {f : List Addr} {H' : Hp} (e : Sub H H') (r : RT K M H' v t f) (nd : f.Nodup) (fr : ∀ a ∈ f, H a = none) : ∃ fs', SR K B M H' (σ.set i (some v)) (env.set i (.oT t)) fs' := by
  obtain ⟨s0, f1, f0, f2, h1, h2, h3, h4⟩ := S.sl.at (List.getElem?_eq_getElem hi)
  have out : ∀ a, a ∈ fs → H' a = H a := fun a ha => by
    cases hq : H a with
    | none => exact absurd hq (S.sl.known a ha)
    | some o => rw [e a o hq]
  have hsl := h4 (M' := M) (H' := H') (s' := some v) (e' := .oT t) (f' := f) (Same.refl _) (fun a ha => out a (by
    rw [h2]
    simp only [List.mem_append] at ha ⊢
    rcases ha with ha | ha <;> simp [ha])) (.oT r)
  refine ⟨_, ⟨S.g.hh.trans e, S.g.nn, S.g.nh.trans e, S.g.nw⟩, S.lo, fun a ha => ?_, ?_, hsl⟩
  · have : a ∈ fs ∨ a ∈ f := by
      rw [h2]
      simp only [List.mem_append] at ha ⊢
      rcases ha with ha | ha | ha <;> simp [ha]
    rcases this with h | h
    · exact S.fr a h
    · refine ⟨?_, S.g.hh.free (fr a h)⟩
      cases hq : M a with
      | none => rfl
      | some o => have := S.g.nh a o hq; rw [fr a h] at this; cases this
  · refine nodup_mid (by rw [← h2]; exact S.nd) nd fun a ha hb => ?_
    refine absurd (fr a ha) (S.sl.known a ?_)
    rw [h2]
    simp only [List.mem_append] at hb ⊢
    rcases hb with hb | hb <;> simp [hb]
/-- the slot's tree stays from here on -/
theorem SR.freezeT (S : SR K B M H σ env fs) {i : Nat} {t : Tr} (hi : env[i]? = some (.oT t)) : ∃ M' fs', SR K B M' H σ (env.set i (.sh t.val)) fs' := by
  obtain ⟨s0, f1, f, f2, h1, h2, h3, h4⟩ := S.sl.at hi
  cases h3 with
  | @oT v t f r =>
    have nd := S.nd
    rw [h2] at nd
    let M' : Hp := fun a => if a ∈ f then H a else M a
    have em : Sub M M' := fun a o q => by
      show (if a ∈ f then H a else M a) = some o
      rw [if_neg fun h => by rw [(S.fr a (by rw [h2]; simp [h])).1] at q; cases q]
      exact q
    have hset : σ.set i (some v) = σ := by
      obtain ⟨hl, he⟩ := List.getElem?_eq_some_iff.mp h1
      rw [← he, List.set_getElem_self]
    have hsl := h4 (M' := M') (H' := H) em (fun b hb => rfl) (.sh (v := v) (RT.rv em t (fun a ha => if_pos ha) r))
    rw [hset] at hsl
    have n1 : ∀ a ∈ f1 ++ f2, a ∉ f := fun a ha hb => by
      rcases List.mem_append.mp ha with ha | ha
      · exact (List.nodup_append.mp nd).2.2 a ha a (List.mem_append_left _ hb) rfl
      · exact (List.nodup_append.mp (List.nodup_append.mp nd).2.1).2.2 a hb a ha rfl
    refine ⟨M', _, ⟨S.g.hh, S.g.nn.trans em, fun b o q => ?_, fun b q => ?_⟩, S.lo.trans em, fun b hb => ?_, nodup_mid nd .nil fun a ha => (by cases ha), hsl⟩
    · have q : (if b ∈ f then H b else M b) = some o := q
      split at q
      · exact q
      · exact S.g.nh b o q
    · have q : (if b ∈ f then H b else M b) ≠ none := q
      split at q
      · rename_i hb; exact .inr (S.fr b (by rw [h2]; simp [hb])).2
      · exact S.g.nw b q
    · have hb : b ∈ f1 ++ f2 := by simpa using hb
      have hfs : b ∈ fs := by
        rw [h2]
        simp only [List.mem_append] at hb ⊢
        rcases hb with hb | hb <;> simp [hb]
      exact ⟨by show (if b ∈ f then H b else M b) = none; rw [if_neg (n1 b hb)]; exact (S.fr b hfs).1, (S.fr b hfs).2⟩
/-! ### places -/
inductive Pl where
  | s (i : Nat)
  | ix (p : Pl) (k : EX)
  | fl (p : Pl) (c f : Str)
/-- a step's index, the tree ahead of it told -/
def stpOf (t : Tr) (x : Val) : Res Stp := match t, x with
  | .l ts, .int n => (match ixNat ts.length n with
    | some j => .ok (.ix j)
    | none => .bad)
  | .d _, x => (match keyOfV x with
    | some k => .ok (.ky k)
    | none => .bad)
  | _, _ => .bad
def plAt : Pl → Env → Res (Nat × List Stp × Tr)
  | .s i, env => (match env[i]? with
    | some (.oT t) => .ok (i, [], t)
    | some (.me t) => .ok (i, [], t)
    | _ => .bad)
  | .ix p k, env => (plAt p env).bind fun q => (k env).nx.bind fun x => (stpOf q.2.2 x).bind fun s => match getAt [s] q.2.2 with
    | some t => .ok (q.1, q.2.1 ++ [s], t)
    | none => .bad
  | .fl p c f, env => (plAt p env).bind fun q => match q.2.2 with
    | .o c' fs => if c' = c then (match lookF fs f with
      | some t => .ok (q.1, q.2.1 ++ [.fl f], t)
      | none => .bad) else .bad
    | _ => .bad
theorem getAt_append : ∀ (p : List Stp) {q : List Stp} {t t' t'' : Tr}, getAt p t = some t' → getAt q t' = some t'' → getAt (p ++ q) t = some t''
  | [], q, t, t', t'', h, h' => by cases h; exact h'
  | .ix j :: p, q, .l ts, t', t'', h, h' => by
    unfold getAt at h
    split at h
    · rename_i u hj
      show getAt (.ix j :: (p ++ q)) (.l ts) = _
      unfold getAt
      rw [hj]
      exact getAt_append p h h'
    · cases h
  | .ky j :: p, q, .d ts, t', t'', h, h' => by
    unfold getAt at h
    split at h
    · rename_i u hj
      show getAt (.ky j :: (p ++ q)) (.d ts) = _
      unfold getAt
      rw [hj]
      exact getAt_append p h h'
    · cases h
  | .fl j :: p, q, .o c ts, t', t'', h, h' => by
    unfold getAt at h
    split at h
    · rename_i u hj
      show getAt (.fl j :: (p ++ q)) (.o c ts) = _
      unfold getAt
      rw [hj]
      exact getAt_append p h h'
    · cases h
  | .ix _ :: _, _, .v _, _, _, h, _ => by cases h
  | .ix _ :: _, _, .d _, _, _, h, _ => by cases h
  | .ix _ :: _, _, .dT _, _, _, h, _ => by cases h
  | .ix _ :: _, _, .o _ _, _, _, h, _ => by cases h
  | .ky _ :: _, _, .v _, _, _, h, _ => by cases h
  | .ky _ :: _, _, .l _, _, _, h, _ => by cases h
  | .ky _ :: _, _, .dT _, _, _, h, _ => by cases h
  | .ky _ :: _, _, .o _ _, _, _, h, _ => by cases h
  | .fl _ :: _, _, .v _, _, _, h, _ => by cases h
  | .fl _ :: _, _, .l _, _, _, h, _ => by cases h
  | .fl _ :: _, _, .d _, _, _, h, _ => by cases h
  | .fl _ :: _, _, .dT _, _, _, h, _ => by cases h
theorem addrAt_append (H : Hp) : ∀ (p : List Stp) {q : List Stp} {v w u : V}, addrAt H p v = some w → addrAt H q w = some u → addrAt H (p ++ q) v = some u
  | [], q, v, w, u, h, h' => by cases h; exact h'
  | .ix j :: p, q, .ref a, w, u, h, h' => by
    show addrAt H (.ix j :: (p ++ q)) (.ref a) = _
    unfold addrAt at h ⊢
    split at h
    · rename_i vs hq
      split at h
      · rename_i x hx
        exact addrAt_append H p h h'
      · cases h
    · cases h
  | .ky j :: p, q, .ref a, w, u, h, h' => by
    show addrAt H (.ky j :: (p ++ q)) (.ref a) = _
    unfold addrAt at h ⊢
    split at h
    · rename_i vs hq
      split at h
      · rename_i x hx
        exact addrAt_append H p h h'
      · cases h
    · cases h
  | .fl j :: p, q, .ref a, w, u, h, h' => by
    show addrAt H (.fl j :: (p ++ q)) (.ref a) = _
    unfold addrAt at h ⊢
    split at h
    · rename_i vs hq
      split at h
      · rename_i x hx
        exact addrAt_append H p h h'
      · cases h
    · cases h
/-- a place's address: where it stands in the slot's tree -/
def EvPl (K : PySem.W.Frag) (tp : TE) (p : Pl) : Prop := ∀ B M H σ env fs, SR K B M H σ env fs → ∀ (Q : VK) (i : Nat) (π : List Stp) (t' : Tr), plAt p env = .ok (i, π, t') →
  (∃ b t, env[i]? = some (mkT b t) ∧ getAt π t = some t') ∧
  ((∀ M' H' v0 v', SR K B M' H' σ env fs → Sub H H' → Sub M M' → σ[i]? = some (some v0) → addrAt H' π v0 = some v' → Q v' H') → tp σ H Q)
theorem epl_s {i : Nat} : EvPl K (tVar i) (.s i) := fun B M H σ env fs S Q j π t' h => by
  have main : ∀ (b : Bool) (t : Tr), env[i]? = some (mkT b t) → (Res.ok (i, [], t) : Res (Nat × List Stp × Tr)) = .ok (j, π, t') → (∃ b t, env[j]? = some (mkT b t) ∧ getAt π t = some t') ∧ ((∀ M' H' v0 v', SR K B M' H' σ env fs → Sub H H' → Sub M M' → σ[j]? = some (some v0) → addrAt H' π v0 = some v' → Q v' H') → (tVar i) σ H Q) := by
    intro b t ht h
    cases h
    refine ⟨⟨b, t', ht, rfl⟩, fun k => ?_⟩
    obtain ⟨v0, v', f', h1, h2, _⟩ := S.foc ht (p := []) rfl
    cases h2
    exact ⟨v0, h1, k _ H v0 v0 S (Same.refl _) (Same.refl _) h1 rfl⟩
  unfold plAt at h
  split at h
  · rename_i t ht; exact main false t ht h
  · rename_i t ht; exact main true t ht h
  · cases h
theorem epl_ix {tp tk : TE} {p : Pl} {k : EX} {C : Cn} (hp : EvPl K tp p) (hk : EvE K C tk k) : EvPl K (tOp (rIxV K) tp tk) (.ix p k) := fun B M H σ env fs S Q i π t'' h => by
  unfold plAt at h
  cases h1 : plAt p env with
  | bad => rw [h1] at h; cases h
  | exc q => rw [h1] at h; cases h
  | ok q =>
    obtain ⟨j, π0, t'⟩ := q
    rw [h1] at h
    simp only [Res.bind_ok] at h
    cases h2 : k env with
    | bad => rw [h2] at h; cases h
    | exc q => rw [h2] at h; cases h
    | ok x =>
      rw [h2] at h
      simp only [Res.nx_ok, Res.bind_ok] at h
      cases h3 : stpOf t' x with
      | bad => rw [h3] at h; cases h
      | exc q => rw [h3] at h; cases h
      | ok s =>
        rw [h3] at h
        simp only [Res.bind_ok] at h
        split at h
        case h_2 => cases h
        rename_i t2 hg2
        cases h
        obtain ⟨⟨bb, t, ht, hg⟩, hrun⟩ := hp B M H σ env fs S (fun x H1 => tk σ H1 fun y H2 => rIxV K x y H2 Q) _ π0 t' h1
        refine ⟨⟨bb, t, ht, getAt_append π0 hg hg2⟩, fun kk => hrun fun M1 H1 v0 v1 S1 e1 m1 hv0 ha1 => ?_⟩
        refine hk _ H1 σ env (full_sub S1) S1.sv _ ?_
        rw [h2]
        intro N2 H2 g2 w rw'
        have S2 := S1.behind g2
        have ha2 := addrAt_mono g2.hh π0 ha1
        obtain ⟨v0', v1', f', k1, k2, k3, k4, k5, _⟩ := S2.foc ht hg
        rw [hv0] at k1; cases k1
        rw [ha2] at k2; cases k2
        have m2 : Sub M (part N2 fs) := fun a o q => by
          unfold part
          rw [if_neg fun h => by rw [(S.fr a h).1] at q; cases q]
          exact g2.nn a o (sub_full S1 a o (m1 a o q))
        have step : ∀ v', addrAt H2 [s] v1 = some v' → Q v' H2 := fun v' hv' => kk _ H2 v0 v' S2 (e1.trans g2.hh) m2 hv0 (addrAt_append H2 π0 ha2 hv')
        unfold stpOf at h3
        split at h3
        · rename_i ts n
          split at h3
          · rename_i m hm
            cases h3
            cases rw'
            cases k3 with
            | @l a vs _ f hl rl =>
              obtain ⟨ww, hw⟩ : ∃ ww, ts[m]? = some ww := by
                unfold getAt at hg2
                split at hg2
                · rename_i u hu; exact ⟨u, hu⟩
                · cases hg2
              obtain ⟨u, f1, f', f2, q1, q2, q3, q4⟩ := RTl.foc ts rl hw
              have hlen : vs.length = ts.length := by
                have : ∀ {vs : List V} {ts : List Tr} {f : List Addr}, RTl K (part N2 fs) H2 vs ts f → vs.length = ts.length := by
                  intro vs ts
                  induction ts generalizing vs with
                  | nil => intro f h; cases h; rfl
                  | cons t ts ih => intro f h; cases h with | cons _ r => exact congrArg (· + 1) (ih r)
                exact this rl
              refine .inl (.inl ⟨a, vs, n, u, rfl, rfl, SqL.of hl, ?_, step u ?_⟩)
              · unfold L2.atI
                rw [hlen, show L2.ixN ts.length n = some m from hm]
                exact q1
              · unfold addrAt
                rw [hl]
                simp only [q1]
                rfl
          · cases h3
        · rename_i kts
          split at h3
          · rename_i q hq
            cases h3
            cases k3 with
            | @d a vs _ f hl rl =>
              obtain ⟨ww, hw⟩ : ∃ ww, lookK kts q = some ww := by
                unfold getAt at hg2
                split at hg2
                · rename_i u hu; exact ⟨u, hu⟩
                · cases hg2
              obtain ⟨u, f1, f', f2, q1, q2, q3, q4⟩ := RTd.foc kts rl hw
              refine .inr ⟨a, u, rfl, ?_, step u ?_⟩
              · rw [keyOf_rv rw' hq, ← q1]
                exact DGet.k hl
              · unfold addrAt
                rw [hl]
                simp only [q1]
                rfl
          · cases h3
        · cases h3
theorem epl_fl {tp : TE} {p : Pl} {c f : Str} (hp : EvPl K tp p) (hc : Cls K (He.ga K c)) (hn : NoAttr K (He.ga K c) f) : EvPl K (tFld K tp f) (.fl p c f) := fun B M H σ env fs S Q i π t'' h => by
  unfold plAt at h
  cases h1 : plAt p env with
  | bad => rw [h1] at h; cases h
  | exc q => rw [h1] at h; cases h
  | ok q =>
    obtain ⟨j, π0, t'⟩ := q
    rw [h1] at h
    simp only [Res.bind_ok] at h
    split at h
    case h_2 => cases h
    rename_i c' fts
    split at h
    case isFalse => cases h
    rename_i hcc
    subst hcc
    split at h
    case h_2 => cases h
    rename_i t2 hl
    cases h
    obtain ⟨⟨bb, t, ht, hg⟩, hrun⟩ := hp B M H σ env fs S (fun x H1 => ∃ a C dx fs v, x = .ref a ∧ H1 a = some (.ins C dx fs) ∧ Cls K C ∧ NoAttr K C f ∧ fs.lookup f = some v ∧ Q v H1) _ π0 _ h1
    have hg2 : getAt [.fl f] (.o c' fts) = some t'' := by unfold getAt; rw [hl]; rfl
    refine ⟨⟨bb, t, ht, getAt_append π0 hg hg2⟩, fun kk => hrun fun M1 H1 v0 v1 S1 e1 m1 hv0 ha1 => ?_⟩
    obtain ⟨v0', v1', f', k1, k2, k3, k4, k5, _⟩ := S1.foc ht hg
    rw [hv0] at k1; cases k1
    rw [ha1] at k2; cases k2
    cases k3 with
    | @o a dx _ vs _ f0 ho hd ro =>
      obtain ⟨u, f1, f', f2, q1, q2, q3, q4⟩ := RTo.foc fts ro hl
      refine ⟨a, He.ga K c', dx, vs, u, rfl, ho, hc, hn, q1, kk M1 H1 v0 u S1 e1 m1 hv0 (addrAt_append H1 π0 ha1 ?_)⟩
      unfold addrAt
      rw [ho]
      simp only [q1]
      rfl
end
end Vm

/-! The value machine over HandS: statements on places. -/
namespace Vm
open PySem L2 PyProof.Rows
def putPl (env : Env) (i : Nat) (π : List Stp) (u : Tr) : Flow := match env[i]? with
  | some (.oT t) => .next (env.set i (.oT (setAt π u t)))
  | some (.me t) => .next (env.set i (.me (setAt π u t)))
  | _ => .bad
theorem putPl_at {env : Env} {i : Nat} {π : List Stp} {u t : Tr} {b : Bool} (h : env[i]? = some (mkT b t)) : putPl env i π u = .next (env.set i (mkT b (setAt π u t))) := by
  unfold putPl
  rw [h]
  cases b <;> rfl
/-- P.append(e), e nothing that may still change | no list in it -/
def sAtApp (p : Pl) (m : EX) : ST := fun env => (plAt p env).nx.flow env fun q => match q.2.2 with
  | .l ts => (m (hide env)).flow env fun x => if ts.length < 16777216 then putPl env q.1 q.2.1 (.l (ts ++ [.v x])) else .bad
  | _ => .bad
def sAtAppN (p : Pl) (m : EX) : ST := fun env => (plAt p env).nx.flow env fun q => match q.2.2 with
  | .l ts => (m env).flow env fun x => if ts.length < 16777216 ∧ x.noLst = true then putPl env q.1 q.2.1 (.l (ts ++ [.v x])) else .bad
  | _ => .bad
/-- P.extend(e) -/
def sAtExt (p : Pl) (m : EX) : ST := fun env => (plAt p env).nx.flow env fun q => match q.2.2 with
  | .l ts => (m (hide env)).flow env fun
    | .lst ys => if ts.length + ys.length ≤ 16777216 then putPl env q.1 q.2.1 (.l (ts ++ ys.map .v)) else .bad
    | _ => .bad
  | _ => .bad
def insT (ts : List Tr) (n : Nat) (x : Tr) : List Tr := ts.take n ++ [x] ++ ts.drop n
/-- x = P; x.insert(k, e): x is not read behind it -/
noncomputable def sAlIns (j : Nat) (p : Pl) (k m : EX) : ST := fun env => (plAt p env).nx.flow env fun q => match q.2.2 with
  | .l ts => (k (env.set j (.sh (.lst (Tr.vals ts))))).nx.flow env fun n => (m (env.set j (.sh (.lst (Tr.vals ts))))).nx.flow env fun x => match n with
    | .int n => if (0 ≤ n ∧ smallI n = true ∧ ts.length < 16777216) ∧ (x.noLst = true ∧ j < env.length ∧ q.1 ≠ j) then (putPl env q.1 q.2.1 (.l (insT ts n.toNat (.v x)))).bind fun e => .next (e.set j .un) else .bad
    | _ => .bad
  | _ => .bad
/-- a new tree of the slot's own -/
abbrev ET := Env → Res Tr
def sOwnT (i : Nat) (m : ET) : ST := fun env => (m (hide env)).flow env fun t => if i < env.length then .next (env.set i (.oT t)) else .bad
/-- P.append(e), e new -/
def sAtAppT (p : Pl) (m : ET) : ST := fun env => (plAt p env).nx.flow env fun q => match q.2.2 with
  | .l ts => (m (hide env)).flow env fun x => if ts.length < 16777216 then putPl env q.1 q.2.1 (.l (ts ++ [x])) else .bad
  | _ => .bad
def sFreezeT (i : Nat) : ST := fun env => match env[i]? with
  | some (.oT t) => .next (env.set i (.sh t.val))
  | _ => .bad
section
variable {K : PySem.W.Frag} {C : Cn} {B : Bs} {M H : Hp} {σ : L2.St} {env : Env} {fs : List Addr} {D : Ends}
theorem RTl.length : ∀ {ts : List Tr} {vs : List V} {f : List Addr}, RTl K M H vs ts f → vs.length = ts.length
  | [], _, _, .nil => rfl
  | _ :: _, _, _, .cons _ r => congrArg (· + 1) r.length
theorem RTl.append : ∀ {ts us : List Tr} {vs ws : List V} {f g : List Addr}, RTl K M H vs ts f → RTl K M H ws us g → RTl K M H (vs ++ ws) (ts ++ us) (f ++ g)
  | [], _, _, _, _, _, .nil, s => s
  | _ :: _, _, _, _, _, _, .cons h r, s => by rw [List.append_assoc]; exact .cons h (r.append s)
theorem RTl.ofV : ∀ {ys : List Val} {vs : List V}, RVs K M vs ys → RTl K M H vs (ys.map .v) []
  | _, _, .nil => .nil
  | _, _, .cons h r => .cons (f := []) (fs := []) (.v h) (RTl.ofV r)
theorem RTl.ins {v : V} {x : Val} (h : RV K M v x) : ∀ {n : Nat} {ts : List Tr} {vs : List V} {f : List Addr}, RTl K M H vs ts f → RTl K M H (vs.take n ++ [v] ++ vs.drop n) (insT ts n (.v x)) f
  | 0, ts, vs, f, r => by
    show RTl K M H ([] ++ [v] ++ vs) ([] ++ [Tr.v x] ++ ts) f
    exact .cons (f := []) (.v h) r
  | n + 1, [], _, _, .nil => .cons (f := []) (fs := []) (.v h) .nil
  | n + 1, _ :: _, _, _, .cons q r => .cons q (RTl.ins h r)
/-- the place's list is written -/
theorem SR.wl (S : SR K B M H σ env fs) {i : Nat} {t : Tr} {ts : List Tr} {p : List Stp} {bb : Bool} (hi : env[i]? = some (mkT bb t)) (hg : getAt p t = some (.l ts)) : ∃ v0 a vs f, σ[i]? = some (some v0) ∧ addrAt H p v0 = some (.ref a) ∧ H a = some (.lst vs) ∧ RTl K M H vs ts f ∧
    ∀ {Hn : Hp} {ws : List V} {ts' : List Tr} {f'' : List Addr}, Sub H Hn → RTl K M Hn ws ts' f'' → (a ∉ f'' ∧ f''.Nodup) → (∀ b ∈ f'', b ∈ f ∨ H b = none) → ∃ fs', SR K B M (upd Hn a (.lst ws)) σ (env.set i (mkT bb (setAt p (.l ts') t))) fs' := by
  obtain ⟨v0, v', f', h1, h2, h3, h4, h5, h6⟩ := S.foc hi hg
  cases h3 with
  | @l a vs _ f ha r =>
    refine ⟨v0, a, vs, f, h1, h2, ha, r, fun {Hn ws ts' f''} e q nd fr => ?_⟩
    have q' := RTl.mono (M' := M) (H' := upd Hn a (.lst ws)) (Same.refl _) ts' (fun b hb => upd_ne fun z => nd.1 (z ▸ hb)) q
    refine h6 (H' := upd Hn a (.lst ws)) (u := .l ts') (f'' := a :: f'') (fun b hb o qq => ?_) (.l upd_same q') (List.nodup_cons.mpr nd) (fun b hb => ?_)
    · rw [upd_ne fun z => hb (by rw [z]; exact List.mem_cons_self)]
      exact e b o qq
    · rcases List.mem_cons.mp hb with rfl | hb
      · exact .inl List.mem_cons_self
      · rcases fr b hb with h | h
        · exact .inl (List.mem_cons_of_mem _ h)
        · exact .inr h
theorem SR.wl_nd (S : SR K B M H σ env fs) {i : Nat} {t : Tr} {ts : List Tr} {p : List Stp} {bb : Bool} (hi : env[i]? = some (mkT bb t)) (hg : getAt p t = some (.l ts)) {v0 : V} {a : Addr} {vs : List V} {f : List Addr} (h1 : σ[i]? = some (some v0)) (h2 : addrAt H p v0 = some (.ref a)) (h3 : H a = some (.lst vs)) : ∃ f, RTl K M H vs ts f ∧ a ∉ f ∧ f.Nodup := by
  obtain ⟨v0', v', f', k1, k2, k3, k4, k5, k6⟩ := S.foc hi hg
  rw [h1] at k1; cases k1
  rw [h2] at k2; cases k2
  cases k3 with
  | @l _ vs' _ f ha r =>
    rw [h3] at ha; cases ha
    exact ⟨f, r, List.nodup_cons.mp k4⟩
/-- all together: behind what was evaluated the place's list is written -/
theorem SR.atL (S : SR K B M H σ env fs) {i : Nat} {t : Tr} {ts : List Tr} {p : List Stp} {bb : Bool} (hi : env[i]? = some (mkT bb t)) (hg : getAt p t = some (.l ts)) {v0 v' : V} (h1 : σ[i]? = some (some v0)) (h2 : addrAt H p v0 = some v') : ∃ a vs f, v' = .ref a ∧ H a = some (.lst vs) ∧ RTl K M H vs ts f ∧ a ∉ f ∧ f.Nodup ∧ (∀ b ∈ f, H b ≠ none) ∧
    ∀ {Hn : Hp} {ws : List V} {ts' : List Tr} {f'' : List Addr}, Sub H Hn → RTl K M Hn ws ts' f'' → (a ∉ f'' ∧ f''.Nodup) → (∀ b ∈ f'', b ∈ f ∨ H b = none) → ∃ fs', SR K B M (upd Hn a (.lst ws)) σ (env.set i (mkT bb (setAt p (.l ts') t))) fs' := by
  obtain ⟨v0', v'', f', k1, k2, k3, k4, k5, h6⟩ := S.foc hi hg
  rw [h1] at k1; cases k1
  rw [h2] at k2; cases k2
  cases k3 with
  | @l a vs _ f ha r =>
    have nd := List.nodup_cons.mp k4
    refine ⟨a, vs, f, rfl, ha, r, nd.1, nd.2, fun b hb => by obtain ⟨o, q, _⟩ := RTl.kinds ts r b hb; rw [q]; simp, fun {Hn ws ts' f''} e q nd fr => ?_⟩
    have q' := RTl.mono (M' := M) (H' := upd Hn a (.lst ws)) (Same.refl _) ts' (fun b hb => upd_ne fun z => nd.1 (z ▸ hb)) q
    refine h6 (H' := upd Hn a (.lst ws)) (u := .l ts') (f'' := a :: f'') (fun b hb o qq => ?_) (.l upd_same q') (List.nodup_cons.mpr nd) (fun b hb => ?_)
    · rw [upd_ne fun z => hb (by rw [z]; exact List.mem_cons_self)]
      exact e b o qq
    · rcases List.mem_cons.mp hb with rfl | hb
      · exact .inl List.mem_cons_self
      · rcases fr b hb with h | h
        · exact .inl (List.mem_cons_of_mem _ h)
        · exact .inr h
/-- a place, then what is done there -/
theorem pl_run {tp : TE} {p : Pl} (hp : EvPl K tp p) (S : SR K B M H σ env fs) {Q : VK} {f : Nat × List Stp × Tr → Flow} (h : PostF K C B D ((plAt p env).nx.flow env f))
    (k : ∀ i π t' bb t M' H' v0 v', plAt p env = .ok (i, π, t') → env[i]? = some (mkT bb t) → getAt π t = some t' → SR K B M' H' σ env fs → σ[i]? = some (some v0) → addrAt H' π v0 = some v' → PostF K C B D (f (i, π, t')) → Q v' H') : tp σ H Q := by
  cases h1 : plAt p env with
  | bad => rw [h1] at h; exact h.elim
  | exc q => rw [h1] at h; exact h.elim
  | ok q =>
    obtain ⟨i, π, t'⟩ := q
    rw [h1] at h
    obtain ⟨⟨bb, t, ht, hg⟩, hrun⟩ := hp B M H σ env fs S Q i π t' h1
    exact hrun fun M' H' v0 v' S' _ _ a b => k i π t' bb t M' H' v0 v' h1 ht hg S' a b h
theorem es_atApp {tp te : TE} {p : Pl} {m : EX} (hp : EvPl K tp p) (ha : EvE K C te m) : EvS K C (tDrop (tBM K "list" rAppend tp (tCons te tNil))) (sAtApp p m) := fun B M H σ env fs S D h => by
  refine pl_run hp S h fun i π t' bb t M1 H1 v0 v' _ ht hg S1 hv hw h => ?_
  cases t' with
  | l ts =>
    obtain ⟨a, vs, f, rfl, k1, _⟩ := S1.atL ht hg hv hw
    refine ⟨.inl ⟨rfl, vs, SqL.of k1⟩, ?_⟩
    refine ha M1 H1 σ (hide env) S1.g.nh S1.sl.hid _ (post_hid S1 h fun x M2 H2 _ g S2 hq v rv => ?_)
    obtain ⟨hl, hq⟩ := PostF.ite hq
    obtain ⟨a', vs', f', e1, e2, e3, e4, e5, e6, e7⟩ := S2.atL ht hg hv (addrAt_mono g.hh π hw)
    cases e1
    refine ⟨a, vs', v, rfl, rfl, e2, by rw [line_eq, e3.length]; exact hl, ?_⟩
    obtain ⟨fs', S3⟩ := e7 (ws := vs' ++ [v]) (ts' := ts ++ [.v x]) (f'' := f' ++ []) (Same.refl _) (e3.append (.cons (f := []) (fs := []) (.v rv) .nil)) (by rw [List.append_nil]; exact ⟨e4, e5⟩) (fun b hb => .inl (by simpa using hb))
    rw [putPl_at ht] at hq
    exact hq _ _ σ fs' S3
  | _ => exact h.elim
theorem es_atAppN {tp te : TE} {p : Pl} {m : EX} (hp : EvPl K tp p) (ha : EvE K C te m) : EvS K C (tDrop (tBM K "list" rAppend tp (tCons te tNil))) (sAtAppN p m) := fun B M H σ env fs S D h => by
  refine pl_run hp S h fun i π t' bb t M1 H1 v0 v' _ ht hg S1 hv hw h => ?_
  cases t' with
  | l ts =>
    obtain ⟨a, vs, f, rfl, k1, _⟩ := S1.atL ht hg hv hw
    refine ⟨.inl ⟨rfl, vs, SqL.of k1⟩, ?_⟩
    refine ha _ H1 σ env (full_sub S1) S1.sv _ (post_full S1 h fun x N2 H2 _ g S2 hq v rv => ?_)
    obtain ⟨⟨hl, hn⟩, hq⟩ := PostF.ite hq
    obtain ⟨a', vs', f', e1, e2, e3, e4, e5, e6, e7⟩ := S2.atL ht hg hv (addrAt_mono g.hh π hw)
    cases e1
    refine ⟨a, vs', v, rfl, rfl, e2, by rw [line_eq, e3.length]; exact hl, ?_⟩
    obtain ⟨fs', S3⟩ := e7 (ws := vs' ++ [v]) (ts' := ts ++ [.v x]) (f'' := f' ++ []) (Same.refl _) (e3.append (.cons (f := []) (fs := []) (.v (RV.strip (S1.kindsN g) x rv hn)) .nil)) (by rw [List.append_nil]; exact ⟨e4, e5⟩) (fun b hb => .inl (by simpa using hb))
    rw [putPl_at ht] at hq
    exact hq _ _ σ fs' S3
  | _ => exact h.elim
theorem es_atExt {tp te : TE} {p : Pl} {m : EX} (hp : EvPl K tp p) (ha : EvE K C te m) : EvS K C (tDrop (tBM K "list" (rExtendS K) tp (tCons te tNil))) (sAtExt p m) := fun B M H σ env fs S D h => by
  refine pl_run hp S h fun i π t' bb t M1 H1 v0 v' _ ht hg S1 hv hw h => ?_
  cases t' with
  | l ts =>
    obtain ⟨a, vs, f, rfl, k1, _⟩ := S1.atL ht hg hv hw
    refine ⟨.inl ⟨rfl, vs, SqL.of k1⟩, ?_⟩
    refine ha M1 H1 σ (hide env) S1.g.nh S1.sl.hid _ (post_hid S1 h fun x M2 H2 _ g S2 hq v rv => ?_)
    cases rv with
    | @lst a2 vs2 ys hs rs =>
      obtain ⟨hl, hq⟩ := PostF.ite hq
      obtain ⟨a', vs', f', e1, e2, e3, e4, e5, e6, e7⟩ := S2.atL ht hg hv (addrAt_mono g.hh π hw)
      cases e1
      refine ⟨a, a2, vs', vs2, rfl, rfl, e2, sq_mono S2.g.nh hs, by rw [line_eq, e3.length, rs.length]; exact hl, ?_⟩
      obtain ⟨fs', S3⟩ := e7 (ws := vs' ++ vs2) (ts' := ts ++ ys.map .v) (f'' := f' ++ []) (Same.refl _) (e3.append (RTl.ofV rs)) (by rw [List.append_nil]; exact ⟨e4, e5⟩) (fun b hb => .inl (by simpa using hb))
      rw [putPl_at ht] at hq
      exact hq _ _ σ fs' S3
    | _ => exact hq.elim
  | _ => exact h.elim
/-- a new tree -/
def EvT (K : PySem.W.Frag) (C : Cn) (te : TE) (m : ET) : Prop := ∀ N H σ env, Sub N H → SV K N σ env → ∀ Q : VK, PostR C σ N H (m env) (fun t N' H' => ∀ v H'' f, Sub H' H'' → RT K N' H'' v t f → f.Nodup → (∀ a ∈ f, H' a = none) → Q v H'') → te σ H Q
theorem es_ownT {te : TE} {m : ET} {i : Nat} (ha : EvT K C te m) : EvS K C (tAsg te (gName i)) (sOwnT i m) := fun B M H σ env fs S D h => by
  refine ha M H σ (hide env) S.g.nh S.sl.hid _ (post_hid S h fun t M' H' _ g S' hx v H'' f e r nd fr => ?_)
  obtain ⟨hi, hx⟩ := PostF.ite hx
  obtain ⟨fs', S2⟩ := S'.putT hi e r nd fr
  exact hx M' _ _ fs' S2
theorem es_atAppT {tp te : TE} {p : Pl} {m : ET} (hp : EvPl K tp p) (ha : EvT K C te m) : EvS K C (tDrop (tBM K "list" rAppend tp (tCons te tNil))) (sAtAppT p m) := fun B M H σ env fs S D h => by
  refine pl_run hp S h fun i π t' bb t M1 H1 v0 v' _ ht hg S1 hv hw h => ?_
  cases t' with
  | l ts =>
    obtain ⟨a, vs, f, rfl, k1, _⟩ := S1.atL ht hg hv hw
    refine ⟨.inl ⟨rfl, vs, SqL.of k1⟩, ?_⟩
    refine ha M1 H1 σ (hide env) S1.g.nh S1.sl.hid _ (post_hid S1 h fun x M2 H2 _ g S2 hq v H3 fv e r nd fr => ?_)
    obtain ⟨hl, hq⟩ := PostF.ite hq
    obtain ⟨a', vs', f', e1, e2, e3, e4, e5, e6, e7⟩ := S2.atL ht hg hv (addrAt_mono g.hh π hw)
    cases e1
    refine ⟨a, vs', v, rfl, rfl, e a _ e2, by rw [line_eq, e3.length]; exact hl, ?_⟩
    have e3' := RTl.mono (M' := M2) (H' := H3) (Same.refl _) ts (fun b hb => by
      cases hq : H2 b with
      | none => exact absurd hq (e6 b hb)
      | some o => rw [e b o hq]) e3
    have g1 : a ∉ f' ++ (fv ++ []) := fun hb => by
      rw [List.append_nil] at hb
      rcases List.mem_append.mp hb with hb | hb
      · exact e4 hb
      · have := fr a hb
        rw [e2] at this
        cases this
    have g2 : (f' ++ (fv ++ [])).Nodup := by
      rw [List.append_nil]
      refine List.nodup_append.mpr ⟨e5, nd, fun b hb c hc z => ?_⟩
      subst z
      exact e6 b hb (fr b hc)
    have g3 : ∀ b ∈ f' ++ (fv ++ []), b ∈ f' ∨ H2 b = none := fun b hb => by
      rw [List.append_nil] at hb
      rcases List.mem_append.mp hb with hb | hb
      · exact .inl hb
      · exact .inr (fr b hb)
    obtain ⟨fs', S3⟩ := e7 (Hn := H3) (ws := vs' ++ [v]) (ts' := ts ++ [x]) (f'' := f' ++ (fv ++ [])) e (e3'.append (.cons r .nil)) ⟨g1, g2⟩ g3
    rw [putPl_at ht] at hq
    exact hq _ _ σ fs' S3
  | _ => exact h.elim
/-- x.insert(k, y) -/
def rIns : V → List V → Hp → VK → Prop := fun x vs H Q => ∃ (l : Addr) (xs : List V) (i : Int) (y : V), x = .ref l ∧ vs = [.int i, y] ∧ H l = some (.lst xs) ∧ xs.length < sizeLine ∧ 0 ≤ i ∧ i < 2 ^ 63 ∧ Q .non (upd H l (.lst (xs.take i.toNat ++ [y] ++ xs.drop i.toNat)))
theorem post_nx {α : Type} {C' : Cn} {σ' : L2.St} (S : SR K B M H σ env fs) {r : Res α} {f : α → Flow} {P : α → Hp → Hp → Prop} (h : PostF K C B D (r.nx.flow env f))
    (k : ∀ x N' H', r = .ok x → Gr (full M H fs) H N' H' → SR K B (part N' fs) H' σ env fs → PostF K C B D (f x) → P x N' H') : PostR C' σ' (full M H fs) H r P := by
  cases r with
  | ok x => exact fun N' H' g => k x N' H' rfl g (S.behind g) h
  | exc q => exact h.elim
  | bad => exact h.elim
theorem SR.set_un (S : SR K B M H σ env fs) {j : Nat} (hj : j < env.length) (s : Option V) : ∃ fs', SR K B M H (σ.set j s) (env.set j .un) fs' := S.put hj (.un s)
theorem SR.un_to (S : SR K B M H σ env fs) {j : Nat} {s : Option V} (hs : env[j]? = some .un) : SR K B M H (σ.set j s) env fs := by
  obtain ⟨s0, f1, f, f2, h1, h2, h3, h4⟩ := S.sl.at hs
  cases h3 with
  | un =>
    have hsl := h4 (M' := M) (H' := H) (s' := s) (e' := .un) (f' := []) (Same.refl _) (fun _ _ => rfl) (.un s)
    have he : env.set j .un = env := by
      obtain ⟨hl, he⟩ := List.getElem?_eq_some_iff.mp hs
      rw [← he, List.set_getElem_self]
    rw [he] at hsl
    exact ⟨S.g, S.lo, S.fr, S.nd, by rw [h2]; exact hsl⟩
theorem es_alIns {tp tk te : TE} {p : Pl} {k m : EX} {j : Nat} (hp : EvPl K tp p) (hk : EvE K C tk k) (ha : EvE K C te m) : EvS K C (tSeq (tAsg tp (gName j)) (tDrop (tBM K "list" rIns (tVar j) (tCons tk (tCons te tNil))))) (sAlIns j p k m) := fun B M H σ env fs S D h => by
  refine pl_run hp S h fun i π t' bb t M1 H1 v0 v' _ ht hg S1 hv hw h => ?_
  cases t' with
  | l ts =>
    obtain ⟨a, vs, f, rfl, k1, k2, k3, k4, k5, _⟩ := S1.atL ht hg hv hw
    -- the name bound
    show (tDrop (tBM K "list" rIns (tVar j) (tCons tk (tCons te tNil)))) D (σ.set j (some (.ref a))) H1
    have h : PostF K C B D ((k (env.set j (.sh (.lst (Tr.vals ts))))).nx.flow env fun n => (m (env.set j (.sh (.lst (Tr.vals ts))))).nx.flow env fun x => match n with
      | .int n => if (0 ≤ n ∧ smallI n = true ∧ ts.length < 16777216) ∧ (x.noLst = true ∧ j < env.length ∧ i ≠ j) then (putPl env i π (.l (insT ts n.toNat (.v x)))).bind fun e => .next (e.set j .un) else .bad
      | _ => .bad) := h
    have hjl : j < env.length ∧ i ≠ j := by
      cases hk : k (env.set j (.sh (.lst (Tr.vals ts)))) with
      | bad => rw [hk] at h; exact h.elim
      | exc q => rw [hk] at h; exact h.elim
      | ok n =>
        rw [hk] at h
        simp only [Res.nx_ok, Res.flow_ok] at h
        cases hm : m (env.set j (.sh (.lst (Tr.vals ts)))) with
        | bad => rw [hm] at h; exact h.elim
        | exc q => rw [hm] at h; exact h.elim
        | ok x =>
          rw [hm] at h
          simp only [Res.nx_ok, Res.flow_ok] at h
          cases n with
          | int n =>
            simp only at h
            obtain ⟨hh, _⟩ := PostF.ite h
            exact ⟨hh.2.2.1, hh.2.2.2⟩
          | _ => exact h.elim
    obtain ⟨hjl, hij⟩ := hjl
    have hjσ : j < σ.length := by rw [S1.sl.len]; exact hjl
    refine ⟨.ref a, by rw [List.getElem?_set_self hjσ], .inl ⟨rfl, vs, SqL.of k1⟩, ?_⟩
    have rvA : ∀ {M2 H2 : Hp}, SR K B M2 H2 σ env fs → Sub H1 H2 → SV K (full M2 H2 fs) (σ.set j (some (.ref a))) (env.set j (.sh (.lst (Tr.vals ts)))) := fun {M2 H2} S2 e => by
      obtain ⟨v0', v'', f', q1, q2, q3, q4, q5, _⟩ := S2.foc ht hg
      rw [hv] at q1; cases q1
      rw [addrAt_mono e π hw] at q2; cases q2
      exact S2.sv.set_sh (RT.rv (sub_full S2) (.l ts) (fun b hb => if_pos (q5 b hb)) q3)
    refine hk _ H1 _ _ (full_sub S1) (rvA S1 (Same.refl _)) _ (post_nx S1 h fun n N2 H2 _ g2 S2 hq w rw' => ?_)
    refine ha _ H2 _ _ (full_sub S2) (rvA S2 g2.hh) _ (post_nx S2 hq fun x N3 H3 _ g3 S3 hq v rv => ?_)
    cases n with
    | int n =>
      cases rw'
      obtain ⟨⟨⟨h0, hs, hl⟩, hn, _, _⟩, hq⟩ := PostF.ite hq
      obtain ⟨s1, s2⟩ := smallI_ok hs
      obtain ⟨a', vs', f', e1, e2, e3, e4, e5, e6, e7⟩ := S3.atL ht hg hv (addrAt_mono (g2.hh.trans g3.hh) π hw)
      cases e1
      refine ⟨a, vs', n, v, rfl, rfl, e2, by rw [line_eq, e3.length]; exact hl, h0, by omega, ?_⟩
      obtain ⟨fs', S4⟩ := e7 (ws := vs'.take n.toNat ++ [v] ++ vs'.drop n.toNat) (ts' := insT ts n.toNat (.v x)) (f'' := f') (Same.refl _) (e3.ins (RV.strip (S2.kindsN g3) x rv hn)) ⟨e4, e5⟩ (fun b hb => .inl hb)
      rw [putPl_at ht] at hq
      obtain ⟨fs2, S5⟩ := S4.set_un (j := j) (by rw [List.length_set]; exact hjl) (some (.ref a))
      exact hq _ _ _ fs2 S5
    | _ => exact hq.elim
  | _ => exact h.elim
theorem es_freezeT {t : TS} {m : ST} {i : Nat} (h1 : EvS K C t m) : EvS K C t (sSeq (sFreezeT i) m) := fun B M H σ env fs S D h => by
  have h : PostF K C B D ((sFreezeT i env).bind m) := h
  unfold sFreezeT at h
  split at h
  · rename_i xs hx
    obtain ⟨M', fs', S'⟩ := S.freezeT hx
    exact h1 B M' H σ _ fs' S' D h
  · exact h.elim
end
end Vm

/-! The value machine over HandS: new trees. -/
namespace Vm
open PySem L2 PyProof.Rows
def compT (put : Put) (tt : EB) (el : ET) (env : Env) : List Val → Res (List Tr)
  | [] => .ok []
  | x :: xs => (put x env).nx.bind fun e => (tt e).nx.bind fun b => bif b then (el e).nx.bind fun y => (compT put tt el env xs).bind fun r => .ok (y :: r) else compT put tt el env xs
def eCompT (it : EI) (own : List Nat) (put : Put) (tt : EB) (el : ET) : ET := fun env => (it env).bind fun xs => if xs.length ≤ 16777216 then (compT put tt el (wipeE env own) xs).bind fun r => .ok (.l r) else .bad
/-- [], a new list of values that stay -/
def tNilT : ET := fun _ => .ok (.l [])
def tOfL (m : EX) : ET := fun env => (m env).bind fun
  | .lst xs => .ok (.l (xs.map .v))
  | _ => .bad
section
variable {put : Put} {tt : EB} {el : ET} {env : Env}
theorem compT_nx : ∀ (xs : List Val) (q : Exn), compT put tt el env xs ≠ .exc q
  | [], _ => fun h => by cases h
  | x :: xs, q => fun h => by
    unfold compT at h
    cases h1 : put x env with
    | bad => rw [h1] at h; cases h
    | exc q => rw [h1] at h; cases h
    | ok e =>
      rw [h1] at h
      simp only [Res.nx, Res.bind_ok] at h
      cases h2 : tt e with
      | bad => rw [h2] at h; cases h
      | exc q => rw [h2] at h; cases h
      | ok b =>
        rw [h2] at h
        simp only [Res.nx, Res.bind_ok] at h
        cases b with
        | false => exact compT_nx xs q h
        | true =>
          simp only [cond_true] at h
          cases h3 : el e with
          | bad => rw [h3] at h; cases h
          | exc q => rw [h3] at h; cases h
          | ok y =>
            rw [h3] at h
            simp only [Res.nx, Res.bind_ok] at h
            cases h4 : compT put tt el env xs with
            | bad => rw [h4] at h; cases h
            | exc q' => exact compT_nx xs _ h4
            | ok r' => rw [h4] at h; cases h
theorem compT_cons {x : Val} {xs : List Val} {r : List Tr} (h : compT put tt el env (x :: xs) = .ok r) :
    ∃ e b, put x env = .ok e ∧ tt e = .ok b ∧ ((b = true ∧ ∃ y r', el e = .ok y ∧ compT put tt el env xs = .ok r' ∧ r = y :: r') ∨ (b = false ∧ compT put tt el env xs = .ok r)) := by
  unfold compT at h
  cases h1 : put x env with
  | bad => rw [h1] at h; cases h
  | exc q => rw [h1] at h; cases h
  | ok e =>
    rw [h1] at h
    simp only [Res.nx, Res.bind_ok] at h
    cases h2 : tt e with
    | bad => rw [h2] at h; cases h
    | exc q => rw [h2] at h; cases h
    | ok b =>
      rw [h2] at h
      simp only [Res.nx, Res.bind_ok] at h
      refine ⟨e, b, rfl, h2, ?_⟩
      cases b with
      | false => exact .inr ⟨rfl, h⟩
      | true =>
        simp only [cond_true] at h
        cases h3 : el e with
        | bad => rw [h3] at h; cases h
        | exc q => rw [h3] at h; cases h
        | ok y =>
          rw [h3] at h
          simp only [Res.nx, Res.bind_ok] at h
          cases h4 : compT put tt el env xs with
          | bad => rw [h4] at h; cases h
          | exc q => exact absurd h4 (compT_nx _ _)
          | ok r' =>
            rw [h4] at h
            cases h
            exact .inl ⟨rfl, y, r', rfl, rfl, rfl⟩
theorem compT_len : ∀ {xs : List Val} {r : List Tr}, compT put tt el env xs = .ok r → r.length ≤ xs.length
  | [], r, h => by cases h; exact Nat.le_refl _
  | x :: xs, r, h => by
    obtain ⟨e, b, _, _, h1 | h1⟩ := compT_cons h
    · obtain ⟨_, y, r', _, h2, rfl⟩ := h1
      have := compT_len h2
      simp only [List.length_cons]
      omega
    · have := compT_len h1.2
      simp only [List.length_cons]
      omega
end
section
variable {K : PySem.W.Frag} {C : Cn}
theorem et_nil : EvT K C (tLst tNil) tNilT := fun N H σ env e s Q h => by
  refine ⟨Nat.zero_le _, fun p hp => ?_⟩
  exact h N H (Gr.refl e) (.ref p) (upd H p (.lst [])) [p] (fun a o q => by rw [upd_ne (ne_of_none q hp)]; exact q) (.l upd_same .nil) (List.nodup_cons.mpr ⟨by simp, .nil⟩) (fun a ha => by rw [List.mem_singleton] at ha; subst ha; exact hp)
theorem et_ofL {te : TE} {m : EX} (ha : EvF K C te m) : EvT K C te (tOfL m) := fun N H σ env e s Q h => by
  refine ha N H σ env e s _ (PostR.imp (PostR.bind h) fun x N1 H1 g1 h1 => ?_)
  cases x with
  | lst xs =>
    refine ⟨xs, rfl, fun p vs hp rvs => ?_⟩
    exact h1 N1 H1 (Gr.refl g1.nh) (.ref p) (upd H1 p (.lst vs)) [p] (fun a o q => by rw [upd_ne (ne_of_none q hp)]; exact q) (.l upd_same (RTl.ofV rvs)) (List.nodup_cons.mpr ⟨by simp, .nil⟩) (fun a ha => by rw [List.mem_singleton] at ha; subst ha; exact hp)
  | _ => exact h1.elim
def CPT (K : PySem.W.Frag) (N1 H1 : Hp) (D : Addr) (acc : List V) (ts : List Tr) (N' H' : Hp) : Prop := ∃ Hn f, Gr N1 H1 N' Hn ∧ Hn D = none ∧ H' = upd Hn D (.lst acc) ∧ RTl K N' Hn acc ts f ∧ f.Nodup ∧ ∀ a ∈ f, N' a = none ∧ H1 a = none
section
variable {N1 H1 N' H' : Hp} {D : Addr} {acc : List V} {ts : List Tr}
theorem CPT.sub (p : CPT K N1 H1 D acc ts N' H') : Sub N' H' := by
  obtain ⟨Hn, f, g, hn, rfl, _⟩ := p
  intro a o q
  have := g.nh a o q
  rw [upd_ne (ne_of_none this hn)]
  exact this
theorem CPT.nn (p : CPT K N1 H1 D acc ts N' H') : Sub N1 N' := by
  obtain ⟨Hn, f, g, hn, rfl, _⟩ := p
  exact g.nn
theorem CPT.at (p : CPT K N1 H1 D acc ts N' H') : H' D = some (.lst acc) := by
  obtain ⟨Hn, f, g, hn, rfl, _⟩ := p
  exact upd_same
theorem CPT.len (p : CPT K N1 H1 D acc ts N' H') : acc.length = ts.length := by
  obtain ⟨Hn, f, g, hn, rfl, r, _⟩ := p
  exact r.length
theorem CPT.start (hD : H1 D = none) (g : Sub N1 H1) : CPT K N1 H1 D [] [] N1 (upd H1 D (.lst [])) := ⟨H1, [], Gr.refl g, hD, rfl, .nil, .nil, fun a ha => by cases ha⟩
theorem CPT.turn (hD : H1 D = none) (p : CPT K N1 H1 D acc ts N' H') {N0 Nx Hx : Hp} (e0 : Sub N0 N') (gx : Gr N0 H' Nx Hx) :
    ∃ Nu, Sub Nx Nu ∧ Sub N' Nu ∧ Sub Nu Hx ∧ ∀ N4 H4, Gr Nu Hx N4 H4 → CPT K N1 H1 D acc ts N4 H4 := by
  obtain ⟨Hn, f, g2, hn, hH, rt, nd, fr⟩ := p
  have q0 : CP K N1 H1 D acc [] N' H' → True := fun _ => trivial
  subst hH
  have sb' : Sub N' (upd Hn D (.lst acc)) := fun a o q => by
    have := g2.nh a o q
    rw [upd_ne (ne_of_none this hn)]
    exact this
  let Nu : Hp := fun a => if Nx a = none then N' a else Nx a
  have u1 : Sub Nx Nu := fun a o q => by show (if Nx a = none then N' a else Nx a) = some o; rw [if_neg (by rw [q]; simp)]; exact q
  have u2 : Sub Nu Hx := fun a o q => by
    have q' : (if Nx a = none then N' a else Nx a) = some o := q
    by_cases hz : Nx a = none
    · rw [if_pos hz] at q'; exact gx.hh a o (sb' a o q')
    · rw [if_neg hz] at q'; exact gx.nh a o q'
  have u3 : Sub N' Nu := fun a o q => by
    show (if Nx a = none then N' a else Nx a) = some o
    by_cases hz : Nx a = none
    · rw [if_pos hz]; exact q
    · rw [if_neg hz]
      cases hq : Nx a with
      | none => exact absurd hq hz
      | some o' =>
        have h1 := gx.nh a o' hq
        have h2 := gx.hh a o (sb' a o q)
        rw [h1] at h2
        exact h2
  have nD : N' D = none := by
    cases hq : N' D with
    | none => rfl
    | some o => have := g2.nh D o hq; rw [hn] at this; cases this
  have u4 : ∀ a, Nu a ≠ none → N' a ≠ none ∨ (Hn a = none ∧ a ≠ D) := fun a q => by
    have q' : (if Nx a = none then N' a else Nx a) ≠ none := q
    by_cases hz : Nx a = none
    · rw [if_pos hz] at q'; exact .inl q'
    · rcases gx.nw a hz with h1 | h1
      · cases hq : N0 a with
        | none => exact absurd hq h1
        | some o => exact .inl (by rw [e0 a o hq]; simp)
      · right
        have hne : a ≠ D := fun z => by rw [z, upd_same] at h1; cases h1
        refine ⟨?_, hne⟩
        rw [upd_ne hne] at h1
        exact h1
  have hDx : Hx D = some (.lst acc) := gx.hh D _ upd_same
  refine ⟨Nu, u1, u3, u2, fun N4 H4 g4 => ?_⟩
  have n4 : N4 D = none := by
    cases hq : N4 D with
    | none => rfl
    | some o =>
      rcases g4.nw D (by rw [hq]; simp) with h1 | h1
      · rcases u4 D h1 with h2 | h2
        · exact absurd nD h2
        · exact absurd rfl h2.2
      · rw [hDx] at h1; cases h1
  have kn : ∀ b ∈ f, ∃ o, Hn b = some o ∧ Hx b = some o ∧ H4 b = some o ∧ b ≠ D := fun b hb => by
    obtain ⟨o, ho, _⟩ := RTl.kinds ts rt b hb
    have hne : b ≠ D := ne_of_none ho hn
    have hx := gx.hh b o (by rw [upd_ne hne]; exact ho)
    exact ⟨o, ho, hx, g4.hh b o hx, hne⟩
  refine ⟨fun a => if a = D then none else H4 a, f, ⟨fun a o q => ?_, fun a o q => g4.nn a o (u3 a o (g2.nn a o q)), fun a o q => ?_, fun a q => ?_⟩, if_pos rfl, ?_, RTl.mono (fun a o q => g4.nn a o (u3 a o q)) ts (fun b hb => ?_) rt, nd, fun b hb => ⟨?_, (fr b hb).2⟩⟩
  · have hne : a ≠ D := ne_of_none q hD
    show (if a = D then none else H4 a) = some o
    rw [if_neg hne]
    refine g4.hh a o (gx.hh a o ?_)
    rw [upd_ne hne]
    exact g2.hh a o q
  · show (if a = D then none else H4 a) = some o
    rw [if_neg (fun z => by rw [z, n4] at q; cases q)]
    exact g4.nh a o q
  · rcases g4.nw a q with h1 | h1
    · rcases u4 a h1 with h2 | h2
      · exact g2.nw a h2
      · exact .inr (g2.hh.free h2.1)
    · right
      cases hq : H1 a with
      | none => rfl
      | some o =>
        have h2 := g2.hh a o hq
        have hne : a ≠ D := ne_of_none h2 hn
        have := gx.hh a o (by rw [upd_ne hne]; exact h2)
        rw [h1] at this
        cases this
  · funext a
    unfold upd
    by_cases ha : a = D
    · rw [if_pos ha, ha]; exact g4.hh D _ hDx
    · rw [if_neg ha]
      exact (if_neg ha).symm
  · obtain ⟨o, h1, h2, h3, h4⟩ := kn b hb
    show (if b = D then none else H4 b) = Hn b
    rw [if_neg h4, h3, h1]
  · obtain ⟨o, h1, h2, h3, h4⟩ := kn b hb
    cases hq : N4 b with
    | none => rfl
    | some o' =>
      rcases g4.nw b (by rw [hq]; simp) with k | k
      · rcases u4 b k with k | k
        · exact absurd (fr b hb).1 k
        · rw [h1] at k; cases k.1
      · rw [h2] at k; cases k
theorem CPT.push (hD : H1 D = none) (p : CPT K N1 H1 D acc ts N' H') {H5 : Hp} {v : V} {t : Tr} {fv : List Addr} (e : Sub H' H5) (r : RT K N' H5 v t fv) (nv : fv.Nodup) (fv0 : ∀ a ∈ fv, H' a = none) : CPT K N1 H1 D (acc ++ [v]) (ts ++ [t]) N' (upd H5 D (.lst (acc ++ [v]))) := by
  obtain ⟨Hn, f, g, hn, rfl, rt, nd, fr⟩ := p
  have dn : D ∉ fv := fun h => by have := fv0 D h; rw [upd_same] at this; cases this
  have hnE : ∀ a o, Hn a = some o → H5 a = some o ∧ a ≠ D := fun a o q => by
    have hne : a ≠ D := ne_of_none q hn
    exact ⟨e a o (by rw [upd_ne hne]; exact q), hne⟩
  have r' : RT K N' (fun a => if a = D then none else H5 a) v t fv := RT.mono (Same.refl _) t (fun a ha => if_neg fun (z : a = D) => dn (z ▸ ha)) r
  have rt' : RTl K N' (fun a => if a = D then none else H5 a) acc ts f := RTl.mono (Same.refl _) ts (fun a ha => by
    obtain ⟨o, ho, _⟩ := RTl.kinds ts rt a ha
    obtain ⟨h1, h2⟩ := hnE a o ho
    show (if a = D then none else H5 a) = Hn a
    rw [if_neg h2, h1, ho]) rt
  have hf : ∀ a ∈ fv, Hn a = none := fun a ha => by
    have := fv0 a ha
    rwa [upd_ne (fun (z : a = D) => dn (z ▸ ha))] at this
  refine ⟨fun a => if a = D then none else H5 a, f ++ (fv ++ []), ⟨fun a o q => ?_, g.nn, fun a o q => ?_, g.nw⟩, if_pos rfl, ?_, rt'.append (.cons r' .nil), ?_, fun a ha => ?_⟩
  · obtain ⟨h1, h2⟩ := hnE a o (g.hh a o q)
    show (if a = D then none else H5 a) = some o
    rw [if_neg h2, h1]
  · obtain ⟨h1, h2⟩ := hnE a o (g.nh a o q)
    show (if a = D then none else H5 a) = some o
    rw [if_neg h2, h1]
  · funext a
    unfold upd
    by_cases ha : a = D
    · rw [if_pos ha, if_pos ha]
    · rw [if_neg ha, if_neg ha]
      exact (if_neg ha).symm
  · rw [List.append_nil]
    refine List.nodup_append.mpr ⟨nd, nv, fun b hb c hc z => ?_⟩
    subst z
    obtain ⟨o, ho, _⟩ := RTl.kinds ts rt b hb
    rw [hf b hc] at ho
    cases ho
  · rw [List.append_nil] at ha
    rcases List.mem_append.mp ha with ha | ha
    · exact fr a ha
    · refine ⟨?_, g.hh.free (hf a ha)⟩
      cases hq : N' a with
      | none => rfl
      | some o => have := g.nh a o hq; rw [hf a ha] at this; cases this
end
theorem et_comp {wi : TI} {it : EI} {g : TG} {put : Put} {is own : List Nat} {tt : TT} {te : TE} {mt : EB} {me : ET} (hi : EvI K C wi it) (hp : EvP K g put is) (hsub : ∀ i ∈ is, i ∈ own)
    (ht : EvB K (C0 C) tt mt) (he : EvT K (C0 C) te me) : EvT K C (tLc wi g tt te own) (eCompT it own put mt me) := fun N H σ env e s Q h => by
  refine hi N H σ env e s _ (PostR.imp (PostR.bind h) fun xs N1 H1 g1 h1 J hJ => ?_)
  intro D hD
  split at h1
  case isFalse => exact h1.elim
  rename_i hsz
  obtain ⟨G, Y, w, hG, hY⟩ := hJ
  cases hc : compT put mt me (wipeE env own) xs with
  | bad => rw [hc] at h1; exact h1.elim
  | exc q => exact absurd hc (compT_nx _ _)
  | ok r =>
    rw [hc] at h1
    have fin : ∀ N' H', Gr N1 H1 N' H' → ∀ v H'' f, Sub H' H'' → RT K N' H'' v (.l r) f → f.Nodup → (∀ a ∈ f, H' a = none) → Q v H'' := h1
    have s1 : SV K N1 σ env := s.mono g1.nn
    have hrl := compT_len hc
    refine walk_W w (fun i H' => ∃ N' acc ts rest, CPT K N1 H1 D acc ts N' H' ∧ compT put mt me (wipeE env own) (xs.drop i) = .ok rest ∧ ts ++ rest = r)
      ⟨N1, [], [], r, CPT.start hD g1.nh, by rw [List.drop_zero]; exact hc, rfl⟩ (fun i H' _ ⟨N', acc, ys, rest, p, _, _⟩ => hG H' fun a o q => p.sub a o (p.nn a o q)) ?_ ?_
    · rintro i x Hi Hx hi ⟨N', acc, ts, rest, p, hrest, hr⟩ y
      obtain ⟨Nx, xv, gx, hxi, rx⟩ := hY i _ x Hx hi (fun a o q => p.sub a o (p.nn a o q)) y
      obtain ⟨Nu, u1, u3, u2, back⟩ := p.turn hD p.nn gx
      rw [List.drop_eq_getElem_cons hi] at hrest
      have hxe : xs[i] = xv := by rw [List.getElem?_eq_getElem hi] at hxi; exact Option.some.inj hxi
      rw [hxe] at hrest
      obtain ⟨e1, b, hput, hb, hways⟩ := compT_cons hrest
      refine hp Nu Hx (L2.wipe σ own) (wipeE env own) x xv e1 u2 (rx.mono u1) hput _ fun l hl he1 => ?_
      refine ⟨by rw [wipe_sets (fun t ht => hsub _ (hl t ht).1), wipe_wipe fun v hv => hv], ?_⟩
      have s2 : SV K Nu (setsS (L2.wipe σ own) l) e1 := by
        rw [he1]
        exact ((s1.mono (fun a o q => u3 a o (p.nn a o q))).wipe own).sets fun t ht => (hl t ht).2
      refine ht Nu Hx _ e1 u2 s2 _ ?_
      rw [hb]
      intro N3 H3 g3
      rcases hways with ⟨rfl, yv, r', hel, hr', hrr⟩ | ⟨rfl, hr'⟩
      · show te _ H3 _
        refine he N3 H3 _ e1 g3.nh (s2.mono g3.nn) _ ?_
        rw [hel]
        intro N4 H4 g4 v H5 fv e5 rv nv fv0
        have p4 := back N4 H4 (g3.trans g4)
        have hlen : acc.length < 16777216 := by
          have h2 := p.len
          have h3 : r.length = ts.length + rest.length := by rw [← hr, List.length_append]
          have h4 : rest.length = r'.length + 1 := by rw [hrr]; rfl
          omega
        exact ⟨acc, e5 D _ p4.at, Nat.lt_of_lt_of_le hlen (by rw [line_eq]; exact Nat.le_refl _), N4, acc ++ [v], ts ++ [yv], r', p4.push hD e5 rv nv fv0, hr', by rw [← hr, hrr, List.append_assoc]; rfl⟩
      · exact ⟨N3, acc, ts, rest, back N3 H3 g3, hr', hr⟩
    · rintro H' ⟨N', acc, ts, rest, ⟨Hn, f, g2, hn, rfl, rt, nd, fr⟩, hrest, hr⟩
      rw [List.drop_length] at hrest
      cases hrest
      rw [List.append_nil] at hr
      subst hr
      have dn : D ∉ f := fun h => by obtain ⟨o, ho, _⟩ := RTl.kinds ts rt D h; rw [hn] at ho; cases ho
      have rt' : RTl K N' (upd Hn D (.lst acc)) acc ts f := RTl.mono (Same.refl _) ts (fun a ha => upd_ne fun z => dn (z ▸ ha)) rt
      refine fin N' (fun a => if a ∈ f then none else Hn a) ⟨fun a o q => ?_, g2.nn, fun a o q => ?_, g2.nw⟩ (.ref D) (upd Hn D (.lst acc)) (D :: f) (fun a o q => ?_) (.l upd_same rt') (List.nodup_cons.mpr ⟨dn, nd⟩) (fun a ha => ?_)
      · show (if a ∈ f then none else Hn a) = some o
        rw [if_neg fun ha => by rw [(fr a ha).2] at q; cases q]
        exact g2.hh a o q
      · show (if a ∈ f then none else Hn a) = some o
        rw [if_neg fun ha => by rw [(fr a ha).1] at q; cases q]
        exact g2.nh a o q
      · have q : (if a ∈ f then none else Hn a) = some o := q
        split at q
        · cases q
        · rw [upd_ne (ne_of_none q hn)]; exact q
      · show (if a ∈ f then none else Hn a) = none
        rcases List.mem_cons.mp ha with rfl | ha
        · rw [if_neg dn]; exact hn
        · exact if_pos ha
end
end Vm

/-! The value machine over HandS: trees, stars, sorted ints, two except clauses: over the AST. -/
namespace Vm
open PySem L2 PyProof.Rows
/-- sorted(xs), ints -/
def insI (x : Int) : List Int → List Int
  | [] => [x]
  | y :: r => if x ≤ y then x :: y :: r else y :: insI x r
def sortI : List Int → List Int
  | [] => []
  | x :: r => insI x (sortI r)
def vSorted : List Val → Res Val
  | [.lst xs] => (Res.ofOpt (intsOf xs)).bind fun ns => .ok (.lst ((sortI ns).map .int))
  | _ => .bad
/-- *e in an argument list -/
def aStar (a : EX) (r : EL) : EL := fun env => (a env).bind fun x => match x with
  | .lst xs => (r env).bind fun ys => .ok (xs ++ ys)
  | .tup xs => (r env).bind fun ys => .ok (xs ++ ys)
  | _ => .bad
/-- a, b = e, e reads what may still change; no list in the value -/
def sPutN (p : Put) (a : EX) : ST := fun env => (a env).flow env fun x => if x.noLst = true then (p x env).flow env .next else .bad
def sTry2 (tab1 tab2 : List (Str × Bool)) (body su1 su2 : ST) : ST := fun env => match body env with
  | .exc q e => (match tab1.lookup q.cls with
    | some true => (su1 e).calm
    | some false => (match tab2.lookup q.cls with
      | some true => (su2 e).calm
      | some false => .exc q e
      | none => .bad)
    | none => .bad)
  | r => r
theorem insI_perm (x : Int) : ∀ l, (insI x l).Perm (x :: l)
  | [] => .refl _
  | y :: r => by
    unfold insI
    split
    · exact .refl _
    · exact ((insI_perm x r).cons y).trans (.swap x y r)
theorem sortI_perm : ∀ l, (sortI l).Perm l
  | [] => .refl _
  | x :: r => (insI_perm x _).trans ((sortI_perm r).cons x)
theorem insI_le (x : Int) : ∀ l, l.Pairwise (· ≤ ·) → (insI x l).Pairwise (· ≤ ·)
  | [], _ => List.pairwise_singleton _ _
  | y :: r, h => by
    unfold insI
    have h' := List.pairwise_cons.mp h
    split
    · rename_i hxy
      refine List.pairwise_cons.mpr ⟨fun z hz => ?_, h⟩
      rcases List.mem_cons.mp hz with rfl | hz
      · exact hxy
      · exact Int.le_trans hxy (h'.1 z hz)
    · rename_i hxy
      refine List.pairwise_cons.mpr ⟨fun z hz => ?_, insI_le x r h'.2⟩
      rcases List.mem_cons.mp ((insI_perm x r).mem_iff.mp hz) with rfl | hz
      · omega
      · exact h'.1 z hz
theorem sortI_le : ∀ l, (sortI l).Pairwise (· ≤ ·)
  | [] => .nil
  | x :: r => insI_le x _ (sortI_le r)
theorem sorted_eq : ∀ {l l' : List Int}, l.Perm l' → l.Pairwise (· ≤ ·) → l'.Pairwise (· ≤ ·) → l = l'
  | [], l', p, _, _ => (List.nil_perm.mp p).symm
  | x :: r, [], p, _, _ => absurd p.length_eq (by simp)
  | x :: r, y :: s, p, h, h' => by
    have a := List.pairwise_cons.mp h
    have b := List.pairwise_cons.mp h'
    have e : x = y := by
      have h1 : x ∈ y :: s := p.mem_iff.mp List.mem_cons_self
      have h2 : y ∈ x :: r := p.mem_iff.mpr List.mem_cons_self
      rcases List.mem_cons.mp h1 with h1 | h1
      · exact h1
      · rcases List.mem_cons.mp h2 with h2 | h2
        · exact h2.symm
        · have := a.1 y h2; have := b.1 x h1; omega
    subst e
    rw [sorted_eq (p.cons_inv) a.2 b.2]
section
variable {K : PySem.W.Frag} {C : Cn} {B : Bs} {D : Ends}
theorem ef_sorted {t : TA} {m : EL} (ha : EvA K C t m) : EvF K C (tCB (rSortedI K) t) (eArgs vSorted m) := fun N H σ env e s Q h => by
  refine ha N H σ env e s _ (PostR.imp (PostR.bind h) fun xs N1 H1 g1 h1 vs rvs => ?_)
  unfold vSorted at h1
  split at h1
  · rename_i ys
    cases rvs with
    | cons rv rr =>
      cases rr
      cases rv with
      | @lst a ws _ hs rs =>
        cases hn : intsOf ys with
        | none => rw [hn] at h1; exact h1.elim
        | some ns =>
          rw [hn] at h1
          have e1 := intsOf_eq hn
          subst e1
          have e2 := rs.ofInts
          subst e2
          refine ⟨a, ns, rfl, sq_mono g1.nh hs, fun ns' p hp hw hf => ?_⟩
          have e3 : ns' = sortI ns := sorted_eq (hp.trans (sortI_perm ns).symm) hw (sortI_le ns)
          subst e3
          obtain ⟨zs, e4, h2⟩ := (show ∀ N' H', Gr N1 H1 N' H' → ∃ xs, Val.lst ((sortI ns).map .int) = .lst xs ∧ ∀ p vs, H' p = none → RVs K N' vs xs → Q (.ref p) (upd H' p (.lst vs)) from h1) N1 H1 (Gr.refl g1.nh)
          cases e4
          refine h2 p _ hf ?_
          have : ∀ l : List Int, RVs K N1 (l.map V.int) (l.map Val.int) := fun l => by
            induction l with
            | nil => exact .nil
            | cons x r ih => exact .cons (.int x) ih
          exact this _
  · exact h1.elim
theorem sorted_lst {m : EL} (env : Env) (x : Val) (h : eArgs vSorted m env = .ok x) : ∃ xs, x = .lst xs := by
  unfold eArgs at h
  cases hm : m env with
  | ok y =>
    rw [hm] at h
    replace h : vSorted y = .ok x := h
    unfold vSorted at h
    split at h
    · rename_i ys
      cases hn : intsOf ys with
      | none => rw [hn] at h; cases h
      | some ns => rw [hn] at h; cases h; exact ⟨_, rfl⟩
    · cases h
  | exc e => rw [hm] at h; cases h
  | bad => rw [hm] at h; cases h
theorem ea_star {te : TE} {t : TA} {m : EX} {r : EL} (ha : EvE K C te m) (hr : EvA K C t r) : EvA K C (StX.tStar K te t) (aStar m r) := fun N H σ env e s Q h => by
  refine ha N H σ env e s _ (PostR.imp (PostR.bind h) fun x N1 H1 g1 h1 v rv => ?_)
  cases rv with
  | @lst a vs xs hs rs =>
    refine ⟨a, vs, rfl, .inr (sq_mono g1.nh hs), ?_⟩
    exact hr N1 H1 σ env g1.nh (s.mono g1.nn) _ (PostR.imp (PostR.bind h1) fun ys N2 H2 g2 h2 ws rws => h2 N2 H2 (Gr.refl g2.nh) _ ((rs.mono g2.nn).append rws))
  | @tup a vs xs hs rs =>
    refine ⟨a, vs, rfl, .inl (st_mono g1.nh hs), ?_⟩
    exact hr N1 H1 σ env g1.nh (s.mono g1.nn) _ (PostR.imp (PostR.bind h1) fun ys N2 H2 g2 h2 ws rws => h2 N2 H2 (Gr.refl g2.nh) _ ((rs.mono g2.nn).append rws))
  | _ => exact h1.elim
theorem es_putN {te : TE} {m : EX} {g : TG} {put : Put} {is : List Nat} (hp : EvP K g put is) (hnx : ∀ x env, NX (put x env)) (ha : EvE K C te m) : EvS K C (tAsg te g) (sPutN put m) := fun B M H σ env fs S D h => by
  refine ha _ H σ env (full_sub S) S.sv _ (post_full S h fun x N' H' _ g S' hx v rv => ?_)
  obtain ⟨hn, hx⟩ := PostF.ite hx
  cases hq : put x env with
  | bad => rw [hq] at hx; exact hx.elim
  | exc q => exact absurd hq (hnx x env q)
  | ok e =>
    rw [hq] at hx
    refine hp _ H' σ env v x e S'.g.nh (RV.strip (S.kindsN g) x rv hn) hq _ fun l hl he => ?_
    obtain ⟨fs', S2⟩ := S'.sets (l := l) fun t ht => (hl t ht).2
    rw [← he] at S2
    exact hx _ H' _ fs' S2
theorem es_try2 {Wout : WX} {tb : WX → TS} {ts1 ts2 : Addr → Value → Option Addr → TS} {body su1 su2 : ST} {tab1 tab2 : List (Str × Bool)} {c1 c2 : Value}
    (hx1 : ∀ p ∈ tab1, PySem.W.exmOne K (.ref (He.ga K p.1)) c1 = some p.2) (hx2 : ∀ p ∈ tab2, PySem.W.exmOne K (.ref (He.ga K p.1)) c2 = some p.2) (hb : ∀ W, EvS K ⟨xr K, some W⟩ (tb W) body)
    (hs1 : ∀ a cls d B M H σ env fs, SR K B M H σ env fs → ∀ D, PostF K (CN K) B D (su1 env) → ts1 a cls d D σ H) (hs2 : ∀ a cls d B M H σ env fs, SR K B M H σ env fs → ∀ D, PostF K (CN K) B D (su2 env) → ts2 a cls d D σ H) :
    EvS K ⟨xr K, some Wout⟩ (fun D σ H => tb (wMany K Wout D [(c1, ts1), (c2, ts2)]) D σ H) (sTry2 tab1 tab2 body su1 su2) := fun B M H σ env fs S D h => by
  refine hb (wMany K Wout D [(c1, ts1), (c2, ts2)]) B M H σ env fs S D ?_
  unfold sTry2 at h
  cases hm : body env with
  | exc q e =>
    rw [hm] at h
    refine ⟨_, rfl, fun cls d M' H' σ' fs' S' hq => ?_⟩
    have h : PostF K ⟨xr K, some Wout⟩ B D (match tab1.lookup q.cls with
      | some true => (su1 e).calm
      | some false => (match tab2.lookup q.cls with
        | some true => (su2 e).calm
        | some false => .exc q e
        | none => .bad)
      | none => .bad) := h
    cases hl : tab1.lookup q.cls with
    | none => rw [hl] at h; exact h.elim
    | some b =>
      rw [hl] at h
      refine ⟨b, ?_, fun hb1 a ha => ?_, fun hb1 => ?_⟩
      · rw [hq.1]; exact hx1 _ (look_mem hl)
      · subst hb1
        exact hs1 a cls d B M' H' σ' e fs' S' D (PostF.calmC h)
      · subst hb1
        have h : PostF K ⟨xr K, some Wout⟩ B D (match tab2.lookup q.cls with
          | some true => (su2 e).calm
          | some false => .exc q e
          | none => .bad) := h
        cases hl2 : tab2.lookup q.cls with
        | none => rw [hl2] at h; exact h.elim
        | some b2 =>
          rw [hl2] at h
          refine ⟨b2, ?_, fun hb1 a ha => ?_, fun hb1 => ?_⟩
          · rw [hq.1]; exact hx2 _ (look_mem hl2)
          · subst hb1
            exact hs2 a cls d B M' H' σ' e fs' S' D (PostF.calmC h)
          · subst hb1
            obtain ⟨w, e1, k⟩ := h
            cases e1
            exact k cls d M' H' σ' fs' S' hq
  | next e => rw [hm] at h; exact h
  | brk e => rw [hm] at h; exact h
  | cont e => rw [hm] at h; exact h
  | ret e => rw [hm] at h; exact h
  | bad => rw [hm] at h; exact h
end
section
variable {X : Cx} {C : Cn} {a b c : Expr} {ta tb tc tk tp : TE} {ma mb mc k m : EX} {pos p pos' : Pos} {es : List Expr} {rest : List Stmt} {u : TS} {n : ST} {W : WX}
/-! trees -/
structure SPl (X : Cx) (C : Cn) (e : Expr) (tp : TE) (q : Pl) : Prop where
  pe : PE X e tp
  ev : EvPl X.K tp q
theorem spl_s (i : Nat) {x : Str} (hN : X.N[i]? = some x := by rfl) (hv : Vis X.env.scope x := by first | exact Or.inl rfl | exact Or.inr (Or.inl rfl) | exact Or.inr (Or.inr rfl)) (hd : (x == ("__debug__" : Str)) = false := by decide)
    (hcd : (x == ("__classdict__" : Str)) = false := by decide) : SPl X C (.Name x pos) (tVar i) (.s i) := ⟨pv i hN hv hd hcd, epl_s⟩
theorem spl_ix {q : Pl} (F : Fr X C) (ha : SPl X C a tp q) (hb : SE X C b tb mb) (hs : PlainIx b := by intro _ _; rfl) : SPl X C (.Subscript a b pos) (tOp (rIxV X.K) tp tb) (.ix q mb) := ⟨pe_ix (ix_V F.u1) ha.pe hb.pe hs, epl_ix ha.ev hb.ev⟩
structure STr (X : Cx) (C : Cn) (e : Expr) (te : TE) (m : ET) : Prop where
  pe : PE X e te
  ev : EvT X.K C te m
theorem str_nil : STr X C (.List [] pos) (tLst tNil) tNilT := ⟨pe_lst pa_nil, et_nil⟩
theorem str_ofF (h : SF X C a ta ma) : STr X C a ta (tOfL ma) := ⟨h.pe, et_ofL h.ev⟩
/-- a tree that may be assigned to a plain local name -/
structure STc (X : Cx) (C : Cn) (e : Expr) (te : TE) (m : ET) : Prop where
  sf : STr X C e te m
  as : ∀ (i : Nat) (y : Str) (py spos : Pos), X.N.Nodup → X.N[i]? = some y → X.env.scope.names.lookup y = some .local → swapsWith e (some (.Name y py)) spos.line X.env = pure true → PS X (.Assign [.Name y py] e spos) (tAsg te (gName i))
theorem stc_comp {tt : TT} {mt : EB} {elt tg iter : Expr} {ifs : List Expr} {scope : Scope} {own : List (Str × Nat)} {wi : TI} {it : EI} {g : TG} {put : Put} {is : List Nat} {te : TE} {me : ET} (F : Fr X C) (hi : SI X C tg iter wi it) (hp : inBlk X scope fun Y => STg Y tg g put is) (ht : inBlk X scope fun Y => STt Y (C0 C) ifs tt mt)
    (he : inBlk X scope fun Y => STr Y (C0 C) elt te me) (hsub : ∀ i ∈ is, i ∈ own.map (·.2) := by decide) (hN : X.N.Nodup := by assumption) (ok : BlkOk X.N X.env.scope scope own := by exact blkOk_by (by rfl)) (hs : ∀ x, foldedSetIterable iter X.env x = pure x := by intro _; rfl) :
    STc X C (.ListComp elt [⟨tg, iter, ifs, 0⟩] scope pos) (tLc wi g tt te (own.map (·.2))) (eCompT it (own.map (·.2)) put mt me) :=
  ⟨⟨pe_lc F.ca hN hi.pi ok (fun s H Cc cl fp => (hp s H Cc cl fp).pe) (fun s H Cc cl fp => (ht s H Cc cl fp).pe) (fun s H Cc cl fp => (he s H Cc cl fp).pe) hs,
    et_comp hi.ev (hp X.s_0 X.H_0 0 [] []).ev hsub (ht X.s_0 X.H_0 0 [] []).ev (he X.s_0 X.H_0 0 [] []).ev⟩, fun i y py spos hN' hy hyl hsw => ps_setLc F.ca hN' hy hyl hsw hi.pi ok (fun s H Cc cl fp => (hp s H Cc cl fp).pe) (fun s H Cc cl fp => (ht s H Cc cl fp).pe) (fun s H Cc cl fp => (he s H Cc cl fp).pe) hs⟩
theorem str_comp {tt : TT} {mt : EB} {elt tg iter : Expr} {ifs : List Expr} {scope : Scope} {own : List (Str × Nat)} {wi : TI} {it : EI} {g : TG} {put : Put} {is : List Nat} {te : TE} {me : ET} (F : Fr X C) (hi : SI X C tg iter wi it) (hp : inBlk X scope fun Y => STg Y tg g put is) (ht : inBlk X scope fun Y => STt Y (C0 C) ifs tt mt)
    (he : inBlk X scope fun Y => STr Y (C0 C) elt te me) (hsub : ∀ i ∈ is, i ∈ own.map (·.2) := by decide) (hN : X.N.Nodup := by assumption) (ok : BlkOk X.N X.env.scope scope own := by exact blkOk_by (by rfl)) (hs : ∀ x, foldedSetIterable iter X.env x = pure x := by intro _; rfl) :
    STr X C (.ListComp elt [⟨tg, iter, ifs, 0⟩] scope pos) (tLc wi g tt te (own.map (·.2))) (eCompT it (own.map (·.2)) put mt me) := (stc_comp F hi hp ht he hsub hN ok hs).sf
theorem ss_ownT (i : Nat) {x : Str} {m : ET} (ha : STr X C a ta m) (hs : swapsWith a (some (.Name x p)) pos.line X.env = pure false := by rfl) (hN : X.N.Nodup := by assumption) (hi : X.N[i]? = some x := by rfl) (hx : Loc X.env.scope x := by first | exact .inl rfl | exact .inr rfl)
    (hf : X.fn x = true ∨ X.env.scope.names.lookup x = some .local := by first | exact .inr rfl | exact .inl rfl) : SSt X C (.Assign [.Name x p] a pos) (tAsg ta (gName i)) (sOwnT i m) := ss_asg i ha.pe (es_ownT ha.ev) hs hN hi hx hf
theorem ss_ownTc (i : Nat) {x : Str} {m : ET} (h : STc X C a ta m) (hs : swapsWith a (some (.Name x p)) pos.line X.env = pure true := by exact sw_true rfl rfl rfl (by decide +kernel)) (hN : X.N.Nodup := by assumption) (hi : X.N[i]? = some x := by rfl) (hx : X.env.scope.names.lookup x = some .local := by rfl) :
    SSt X C (.Assign [.Name x p] a pos) (tAsg ta (gName i)) (sOwnT i m) := ⟨h.as i x p pos hN hi hx hs, es_ownT h.sf.ev⟩
theorem pe_meth1 {o : Expr} {pa : Pos} {nm : Str} {id : String} {r : V → List V → Hp → VK → Prop} {es : List Expr} {t : TA} (slot : PySem.Slot "list" nm id) (hty : typeOf (.builtin id) = pure (.type "method_descriptor")) (hm : MtR X id r) (ho : PE X o tp) (ha : PA X (a :: es) t)
    (hbase : attributeBase o nm X.env (eval o X.env) = eval o X.env := by rfl)
    (hfew : ((backTo pos (starEach (a :: es) X.env)).all (fun x => !x.1) && (backToKw pos (keywordEach [] X.env)).all (fun x => x.1.isSome)
      && decide ((a :: es).length + ([] : List Keyword).length + (if ([] : List Keyword).isEmpty then 0 else 1) < 30)) = true := by rfl)
    (hline : (pa.endLine == pos.line) = true := by rfl) (hs : starEach (a :: es) X.env = (false, eval a X.env) :: starEach es X.env := by rfl) (hplain : (backTo pos (starEach es X.env)).any (·.1) = false := by rfl) :
    PE X (.Call (.Attribute o nm pa) (a :: es) [] pos) (tBM X.K "list" r tp t) := pe_bm PySem.F.plainAttrs_list slot hty hm ho ha hbase hfew hline hs hplain
theorem ss_atApp {o : Expr} {pa pos2 : Pos} {q : Pl} (ho : SPl X C o tp q) (ha : SE X C a ta ma) (hbase : attributeBase o "append" X.env (eval o X.env) = eval o X.env := by rfl)
    (hfew : ((backTo pos (starEach [a] X.env)).all (fun x => !x.1) && (backToKw pos (keywordEach [] X.env)).all (fun x => x.1.isSome)
      && decide ([a].length + ([] : List Keyword).length + (if ([] : List Keyword).isEmpty then 0 else 1) < 30)) = true := by rfl)
    (hline : (pa.endLine == pos.line) = true := by rfl) (hs : starEach [a] X.env = (false, eval a X.env) :: starEach [] X.env := by rfl) (hplain : (backTo pos (starEach [] X.env)).any (·.1) = false := by rfl)
    (hsw : swapsWith (.Call (.Attribute o "append" pa) [a] [] pos) none pos2.line X.env = pure false := by rfl) :
    SSt X C (.Expr (.Call (.Attribute o "append" pa) [a] [] pos) pos2) (tDrop (tBM X.K "list" rAppend tp (tCons ta tNil))) (sAtApp q ma) :=
  ⟨ps_expr (pe_bm PySem.F.plainAttrs_list PySem.F.slot_list_append PySem.F.type_list_append mt_append ho.pe (pa_cons ha.pe pa_nil hs) hbase hfew hline hs hplain) hsw, es_atApp ho.ev ha.ev⟩
theorem ss_atAppN {o : Expr} {pa pos2 : Pos} {q : Pl} (ho : SPl X C o tp q) (ha : SE X C a ta ma) (hbase : attributeBase o "append" X.env (eval o X.env) = eval o X.env := by rfl)
    (hfew : ((backTo pos (starEach [a] X.env)).all (fun x => !x.1) && (backToKw pos (keywordEach [] X.env)).all (fun x => x.1.isSome)
      && decide ([a].length + ([] : List Keyword).length + (if ([] : List Keyword).isEmpty then 0 else 1) < 30)) = true := by rfl)
    (hline : (pa.endLine == pos.line) = true := by rfl) (hs : starEach [a] X.env = (false, eval a X.env) :: starEach [] X.env := by rfl) (hplain : (backTo pos (starEach [] X.env)).any (·.1) = false := by rfl)
    (hsw : swapsWith (.Call (.Attribute o "append" pa) [a] [] pos) none pos2.line X.env = pure false := by rfl) :
    SSt X C (.Expr (.Call (.Attribute o "append" pa) [a] [] pos) pos2) (tDrop (tBM X.K "list" rAppend tp (tCons ta tNil))) (sAtAppN q ma) :=
  ⟨ps_expr (pe_bm PySem.F.plainAttrs_list PySem.F.slot_list_append PySem.F.type_list_append mt_append ho.pe (pa_cons ha.pe pa_nil hs) hbase hfew hline hs hplain) hsw, es_atAppN ho.ev ha.ev⟩
theorem ss_atAppT {o : Expr} {pa pos2 : Pos} {q : Pl} {mt : ET} (ho : SPl X C o tp q) (ha : STr X C a ta mt) (hbase : attributeBase o "append" X.env (eval o X.env) = eval o X.env := by rfl)
    (hfew : ((backTo pos (starEach [a] X.env)).all (fun x => !x.1) && (backToKw pos (keywordEach [] X.env)).all (fun x => x.1.isSome)
      && decide ([a].length + ([] : List Keyword).length + (if ([] : List Keyword).isEmpty then 0 else 1) < 30)) = true := by rfl)
    (hline : (pa.endLine == pos.line) = true := by rfl) (hs : starEach [a] X.env = (false, eval a X.env) :: starEach [] X.env := by rfl) (hplain : (backTo pos (starEach [] X.env)).any (·.1) = false := by rfl)
    (hsw : swapsWith (.Call (.Attribute o "append" pa) [a] [] pos) none pos2.line X.env = pure false := by rfl) :
    SSt X C (.Expr (.Call (.Attribute o "append" pa) [a] [] pos) pos2) (tDrop (tBM X.K "list" rAppend tp (tCons ta tNil))) (sAtAppT q mt) :=
  ⟨ps_expr (pe_bm PySem.F.plainAttrs_list PySem.F.slot_list_append PySem.F.type_list_append mt_append ho.pe (pa_cons ha.pe pa_nil hs) hbase hfew hline hs hplain) hsw, es_atAppT ho.ev ha.ev⟩
theorem ss_atExt {o : Expr} {pa pos2 : Pos} {q : Pl} (ho : SPl X C o tp q) (ha : SE X C a ta ma) (hbase : attributeBase o "extend" X.env (eval o X.env) = eval o X.env := by rfl)
    (hfew : ((backTo pos (starEach [a] X.env)).all (fun x => !x.1) && (backToKw pos (keywordEach [] X.env)).all (fun x => x.1.isSome)
      && decide ([a].length + ([] : List Keyword).length + (if ([] : List Keyword).isEmpty then 0 else 1) < 30)) = true := by rfl)
    (hline : (pa.endLine == pos.line) = true := by rfl) (hs : starEach [a] X.env = (false, eval a X.env) :: starEach [] X.env := by rfl) (hplain : (backTo pos (starEach [] X.env)).any (·.1) = false := by rfl)
    (hsw : swapsWith (.Call (.Attribute o "extend" pa) [a] [] pos) none pos2.line X.env = pure false := by rfl) :
    SSt X C (.Expr (.Call (.Attribute o "extend" pa) [a] [] pos) pos2) (tDrop (tBM X.K "list" (rExtendS X.K) tp (tCons ta tNil))) (sAtExt q ma) :=
  ⟨ps_expr (pe_bm PySem.F.plainAttrs_list PySem.F.slot_list_extend PySem.F.type_list_extend mt_extendS ho.pe (pa_cons ha.pe pa_nil hs) hbase hfew hline hs hplain) hsw, es_atExt ho.ev ha.ev⟩
theorem ss_alIns (j : Nat) {x : Str} {o : Expr} {p2 pa pos0 pos2 : Pos} {q : Pl} (ho : SPl X C o tp q) (hk : SE X C b tb mb) (ha : SE X C a ta ma) (r : SSs X C rest u n)
    (hsw0 : swapsWith o (some (.Name x p)) pos0.line X.env = pure false := by rfl) (hN : X.N.Nodup := by assumption) (hi : X.N[j]? = some x := by rfl) (hx : Loc X.env.scope x := by first | exact .inl rfl | exact .inr rfl)
    (hf : X.fn x = true ∨ X.env.scope.names.lookup x = some .local := by first | exact .inr rfl | exact .inl rfl)
    (hv : Vis X.env.scope x := by first | exact Or.inl rfl | exact Or.inr (Or.inl rfl) | exact Or.inr (Or.inr rfl)) (hd : (x == ("__debug__" : Str)) = false := by decide) (hcd : (x == ("__classdict__" : Str)) = false := by decide)
    (hbase : attributeBase (.Name x p2) "insert" X.env (eval (.Name x p2) X.env) = eval (.Name x p2) X.env := by rfl)
    (hfew : ((backTo pos (starEach [b, a] X.env)).all (fun x => !x.1) && (backToKw pos (keywordEach [] X.env)).all (fun x => x.1.isSome)
      && decide ([b, a].length + ([] : List Keyword).length + (if ([] : List Keyword).isEmpty then 0 else 1) < 30)) = true := by rfl)
    (hline : (pa.endLine == pos.line) = true := by rfl) (hs : starEach [b, a] X.env = (false, eval b X.env) :: starEach [a] X.env := by rfl) (hs1 : starEach [a] X.env = (false, eval a X.env) :: starEach [] X.env := by rfl) (hplain : (backTo pos (starEach [a] X.env)).any (·.1) = false := by rfl)
    (hsw : swapsWith (.Call (.Attribute (.Name x p2) "insert" pa) [b, a] [] pos) none pos2.line X.env = pure false := by rfl) :
    SSs X C (.Assign [.Name x p] o pos0 :: .Expr (.Call (.Attribute (.Name x p2) "insert" pa) [b, a] [] pos) pos2 :: rest) (tSeq (tAsg tp (gName j)) (tSeq (tDrop (tBM X.K "list" rIns (tVar j) (tCons tb (tCons ta tNil)))) u)) (sSeq (sAlIns j q mb ma) n) :=
  ⟨pss_cons (ps_set hN hi hx ho.pe hsw0 hf) (pss_cons (ps_expr (pe_bm PySem.F.plainAttrs_list PySem.F.slot_list_insert PySem.F.type_list_insert mt_insert (pv j hi hv hd hcd) (pa_cons hk.pe (pa_cons ha.pe pa_nil hs1) hs) hbase hfew hline hs hplain) hsw) r.ps),
    fun B M H σ env fs S D h => es_seq (es_alIns (j := j) ho.ev hk.ev ha.ev) r.ev B M H σ env fs S D h⟩
theorem ss_freezeT (i : Nat) (r : SSs X C rest u n) : SSs X C rest u (sSeq (sFreezeT i) n) := ⟨r.ps, es_freezeT r.ev⟩
/-! stars, sorted -/
theorem sa_star {t : TA} {m : EL} (ha : SE X C a ta ma) (hr : SA X C es t m) (hs : starEach (.Starred a p :: es) X.env = (true, eval a X.env) :: starEach es X.env := by rfl) : SA X C (.Starred a p :: es) (StX.tStar X.K ta t) (aStar ma m) := ⟨StX.pa_star ha.pe hr.pe hs, ea_star ha.ev hr.ev⟩
theorem sf_sorted {t : TA} {m : EL} (hm : X.mg "sorted" = none) (h : SA X C (a :: es) t m) (hg : Gl X "sorted" := by rfl) (he : starEach (a :: es) X.env = (false, eval a X.env) :: starEach es X.env := by rfl) (hpl : (backTo pos (starEach es X.env)).any (·.1) = false := by rfl) :
    SF X C (.Call (.Name "sorted" p) (a :: es) [] pos) (tCB (rSortedI X.K) t) (eArgs vSorted m) := ⟨pe_callB cr_sortedI hg hm boot_sorted h.pe (by decide) (by decide) he hpl, ef_sorted h.ev⟩
theorem se_sorted {t : TA} {m : EL} (hm : X.mg "sorted" = none) (h : SA X C (a :: es) t m) (hg : Gl X "sorted" := by rfl) (he : starEach (a :: es) X.env = (false, eval a X.env) :: starEach es X.env := by rfl) (hpl : (backTo pos (starEach es X.env)).any (·.1) = false := by rfl) :
    SE X C (.Call (.Name "sorted" p) (a :: es) [] pos) (tCB (rSortedI X.K) t) (eArgs vSorted m) := ⟨pe_callB cr_sortedI hg hm boot_sorted h.pe (by decide) (by decide) he hpl, EvF.e sorted_lst (ef_sorted h.ev)⟩
theorem ss_putN {tg : Expr} {g : TG} {put : Put} {is : List Nat} (hp : STg X tg g put is) (hnx : ∀ x env, NX (put x env)) (ha : SE X C a ta ma) (hs : swapsWithSole [tg] a pos.line X.env = pure false := by rfl) (hw : swappedStores [tg] a X.env = pure none := by rfl)
    (h1 : (assignEach [tg] X.env).map (·.2) = [assign tg X.env] := by rfl) : SSt X C (.Assign [tg] a pos) (tAsg ta g) (sPutN put ma) := ⟨ps_asg ha.pe hp.pe hs hw h1, es_putN hp.ev hnx ha.ev⟩
/-! two except clauses -/
theorem ss_try2 {x1 x2 : Str} {body suite1 suite2 : List Stmt} {b1 b2 : Stmt} {np1 np2 pos1 pos2 : Pos} {t2 : WX → List (Addr × Obj) → (Value → Shared → Prop) → TS} {t1 t1' : Addr → List (Addr × Obj) → TS} {mb su1 su2 : ST} {tab1 tab2 : List (Str × Bool)} (F : Fr X ⟨xr X.K, some W⟩) (tk : Takes X W) {jj : Nat} (hr : Room jj X.A) (c1 : XC X.K X.mg x1) (c2 : XC X.K X.mg x2)
    (hx1 : ∀ p ∈ tab1, PySem.W.exmOne X.K (.ref (He.ga X.K p.1)) (.ref (He.ga X.K x1)) = some p.2) (hx2 : ∀ p ∈ tab2, PySem.W.exmOne X.K (.ref (He.ga X.K p.1)) (.ref (He.ga X.K x2)) = some p.2)
    (hb : ∀ (W : WX) (pn : List (Addr × Obj)) (xe : Value → Shared → Prop), Takes (X.tr pn xe) W → Fr (X.tr pn xe) ⟨xr X.K, some W⟩ → Room jj (X.tr pn xe).A → SSs (X.tr pn xe) ⟨xr X.K, some W⟩ body (t2 W pn xe) mb)
    (hsu1 : ∀ (a : Addr) (pn : List (Addr × Obj)), SSs (X.suite a pn) (CN X.K) (b1 :: suite1) (t1 a pn) su1) (hsu2 : ∀ (a : Addr) (pn : List (Addr × Obj)), SSs (X.suite a pn) (CN X.K) (b2 :: suite2) (t1' a pn) su2)
    (hs : X.stack = X.env :: X.outer := by rfl) (hf : X.env.frame = some X.env.locals := by rfl) (hg1 : Gl X x1 := by rfl) (hd1 : (x1 == ("__debug__" : Str)) = false := by decide) (hg2 : Gl X x2 := by rfl) (hd2 : (x2 == ("__debug__" : Str)) = false := by decide) :
    SSt X ⟨xr X.K, some W⟩ (.Try body [.ExceptHandler (some (.Name x1 np1)) none (b1 :: suite1) pos1, .ExceptHandler (some (.Name x2 np2)) none (b2 :: suite2) pos2] [] [] pos) (fun D σ H => (fun W D σ H => ∀ pn xe, Takes (X.tr pn xe) W → Fr (X.tr pn xe) ⟨xr X.K, some W⟩ → t2 W pn xe D σ H) (wMany X.K W D [(.ref (He.ga X.K x1), fun a _ _ D σ H => ∀ pn, t1 a pn D σ H), (.ref (He.ga X.K x2), fun a _ _ D σ H => ∀ pn, t1' a pn D σ H)]) D σ H) (sTry2 tab1 tab2 mb su1 su2) :=
  ⟨ps_try_many (tb := fun W D σ H => ∀ pn xe, Takes (X.tr pn xe) W → Fr (X.tr pn xe) ⟨xr X.K, some W⟩ → t2 W pn xe D σ H) hs hf tk (fun W pn xe tk pw => ⟨fun pins s σ H D I h => (hb W pn xe tk (F.tr tk pw) hr).ps.run pins s σ H D I (h pn xe tk (F.tr tk pw))⟩)
    (.cons ⟨hg1, hd1, .inl c1.g⟩ (fun a oe cls d pn _ _ => ⟨fun pins s σ H D I h => (hsu1 a _).ps.run pins s σ H D I (h _)⟩) (.cons ⟨hg2, hd2, .inl c2.g⟩ (fun a oe cls d pn _ _ => ⟨fun pins s σ H D I h => (hsu2 a _).ps.run pins s σ H D I (h _)⟩) .nil)),
   es_try2 (tb := fun W D σ H => ∀ pn xe, Takes (X.tr pn xe) W → Fr (X.tr pn xe) ⟨xr X.K, some W⟩ → t2 W pn xe D σ H) hx1 hx2 (fun W' B M H σ env fs S D h pn xe tk' F' => (hb W' pn xe tk' F' hr).ev B M H σ env fs S D h) (fun a cls d B M H σ env fs S D h pn => (hsu1 a pn).ev B M H σ env fs S D h) (fun a cls d B M H σ env fs S D h pn => (hsu2 a pn).ev B M H σ env fs S D h)⟩
end
end Vm

/-! The value machine over HandS: defs that return a new tree. -/
namespace Vm
open PySem L2 PyProof.Rows
/-- a value as a tree whose lists, d deep, may change -/
def ownTr : Nat → Val → Tr
  | d + 1, .lst xs => .l (xs.map (ownTr d))
  | _, x => .v x
def Tr.isV : Tr → Bool
  | .v _ => true
  | _ => false
/-- lists d deep, frozen values below -/
def shape : Nat → Tr → Bool
  | 0, t => t.isV
  | d + 1, .l ts => ts.all (shape d)
  | _, _ => false
theorem ownTr_vals {d : Nat} (h : ∀ x : Val, (ownTr d x).val = x) : ∀ xs : List Val, Tr.vals (xs.map (ownTr d)) = xs
  | [] => rfl
  | x :: xs => by show (ownTr d x).val :: Tr.vals _ = _; rw [h x, ownTr_vals h xs]
theorem ownTr_val : ∀ (d : Nat) (x : Val), (ownTr d x).val = x
  | 0, x => by cases x <;> rfl
  | d + 1, x => by
    cases x with
    | lst xs => exact congrArg Val.lst (ownTr_vals (ownTr_val d) xs)
    | _ => rfl
theorem shape_vals {d : Nat} (h : ∀ t : Tr, shape d t = true → ownTr d t.val = t) : ∀ ts : List Tr, ts.all (shape d) = true → (Tr.vals ts).map (ownTr d) = ts
  | [], _ => rfl
  | t :: ts, e => by
    rw [List.all_cons, Bool.and_eq_true] at e
    show ownTr d t.val :: (Tr.vals ts).map (ownTr d) = _
    rw [h t e.1, shape_vals h ts e.2]
theorem shape_own : ∀ (d : Nat) (t : Tr), shape d t = true → ownTr d t.val = t
  | 0, t, h => by
    cases t with
    | v x => cases x <;> rfl
    | _ => cases h
  | d + 1, t, h => by
    cases t with
    | l ts => exact congrArg Tr.l (shape_vals (shape_own d) ts h)
    | _ => cases h
/-- what is returned: a slot's tree, a new one -/
inductive Rt where
  | sl (i : Nat)
  | ex (m : ET)
def retT (d : Nat) (r : Rt) (env : Env) : DR := match r with
  | .sl i => (match env[i]? with
    | some (.oT t) => if shape d t = true then .ret t.val else .bad
    | _ => .bad)
  | .ex m => (match m (hide env) with
    | .ok t => if shape d t = true then .ret t.val else .bad
    | .exc q => .exc q
    | .bad => .bad)
def defnT (k n d : Nat) (m : ST) (r : Rt) : Fn := fun xs => if xs.length = k then (match m (startE n xs) with
  | .next e => retT d r e
  | .exc q _ => .exc q
  | _ => .bad) else .bad
/-- f(..), the result a new tree -/
def tCallT (d : Nat) (f : Fn) (m : EL) : ET := fun env => (eCall f m env).bind fun x => .ok (ownTr d x)
/-- [e], e a new tree -/
def tLst1 (m : ET) : ET := fun env => (m env).bind fun t => .ok (.l [t])
def EndT (K : PySem.W.Frag) (XR : XRel) (d : Nat) (N H : Hp) (Q : VK) (E : XK) (x : DR) : Prop := match x with
  | .ret y => ∀ N' H', Gr N H N' H' → ∀ v H'' fv, Sub H' H'' → RT K N' H'' v (ownTr d y) fv → fv.Nodup → (∀ a ∈ fv, H' a = none) → Q v H''
  | .exc q => ∀ cls e N' H', Gr N H N' H' → XR H' cls e q → E cls e H'
  | .bad => False
def spFT (K : PySem.W.Frag) (XR : XRel) (k d : Nat) (f : Fn) : Sp := fun vs H Q E => ∃ N xs, Sub N H ∧ RVs K N vs xs ∧ xs.length = k ∧ EndT K XR d N H Q E (f xs)
structure CalT (P : Program) (w : World) (K : PySem.W.Frag) (mg : Str → Option Value) (base : Heap) (XR : XRel) (x : Str) (j k d : Nat) (f : Fn) : Prop where
  ex : ∃ a fd ps, FnOk P w K mg base (L2.CX P w) j a fd ps (spFT K XR k d f) ∧ mg x = some (.ref a) ∧ PySem.W.keepIn K (.ref a) = true ∧ Binds K fd ps []
  ln : ∀ xs, f xs ≠ .bad → xs.length = k
theorem spF_T {K : PySem.W.Frag} {XR : XRel} {k d : Nat} {f : Fn} {vs : List V} {H : Hp} {Q : VK} {E : XK} (h : spF K XR k f vs H Q E) : spFT K XR k d f vs H Q E := by
  obtain ⟨N, xs, e, r, hl, q⟩ := h
  refine ⟨N, xs, e, r, hl, ?_⟩
  cases hf : f xs with
  | bad => rw [hf] at q; exact q
  | exc z => rw [hf] at q; exact q
  | ret y =>
    rw [hf] at q
    intro N' H' g v H'' fv e2 rt nd fr
    let N2 : Hp := fun a => if a ∈ fv then H'' a else N' a
    have em : Sub N' N2 := fun a o q => by
      show (if a ∈ fv then H'' a else N' a) = some o
      rw [if_neg fun h => by have := g.nh a o q; rw [fr a h] at this; cases this]
      exact q
    have rv := RT.rv em (ownTr d y) (fun a ha => if_pos ha) rt
    rw [ownTr_val] at rv
    refine q N2 H'' ⟨g.hh.trans e2, g.nn.trans em, fun a o q => ?_, fun a q => ?_⟩ v rv
    · have q : (if a ∈ fv then H'' a else N' a) = some o := q
      split at q
      · exact q
      · exact e2 a o (g.nh a o q)
    · have q : (if a ∈ fv then H'' a else N' a) ≠ none := q
      split at q
      · rename_i ha
        exact .inr (g.hh.free (fr a ha))
      · exact g.nw a q
theorem CalT.cal {P : Program} {w : World} {K : PySem.W.Frag} {mg : Str → Option Value} {base : Heap} {XR : XRel} {x : Str} {j k d : Nat} {f : Fn} (c : CalT P w K mg base XR x j k d f) : Cal P w K mg base XR x j k f := by
  obtain ⟨a, fd, ps, F, h1, h2, h3⟩ := c.ex
  exact ⟨⟨a, fd, ps, F.imp fun vs H Q E h => spF_T h, h1, h2, h3⟩, c.ln⟩
section
variable {K : PySem.W.Frag} {C : Cn}
theorem et_call {k d : Nat} {f : Fn} {t : TA} {m : EL} (hk : ∀ xs, f xs ≠ .bad → xs.length = k) (ha : EvA K C t m) : EvT K C (tCallS (spFT K C.XR k d f) (CE C) t) (tCallT d f m) := fun N H σ env e s Q h => by
  have h0 : PostR C σ N H (((m env).bind fun xs => (f xs).res).bind fun x => Res.ok (ownTr d x)) _ := h
  cases hm : m env with
  | bad => rw [hm] at h0; exact h0.elim
  | exc q =>
    rw [hm] at h0
    exact ha N H σ env e s _ (by rw [hm]; exact h0)
  | ok xs0 =>
    refine ha N H σ env e s _ ?_
    rw [hm] at h0 ⊢
    intro N1 H1 g1 vs rvs
    have h0 : PostR C σ N H ((f xs0).res.bind fun x => Res.ok (ownTr d x)) (fun t N' H' => ∀ v H'' f, Sub H' H'' → RT K N' H'' v t f → f.Nodup → (∀ a ∈ f, H' a = none) → Q v H'') := h0
    refine ⟨N1, xs0, g1.nh, rvs, hk xs0 fun z => (by rw [z] at h0; exact h0), ?_⟩
    cases hf : f xs0 with
    | bad => rw [hf] at h0; exact h0
    | ret y =>
      rw [hf] at h0
      intro N' H' g'
      exact h0 N' H' (g1.trans g')
    | exc q =>
      rw [hf] at h0
      obtain ⟨w, hw, h2⟩ := (show ExcP C σ N H q from h0)
      intro cls d N' H' g' hx
      show CE C σ cls d H'
      unfold CE
      rw [hw]
      exact h2 cls d N' H' (g1.trans g') hx
theorem et_lst1 {te : TE} {m : ET} (ha : EvT K C te m) : EvT K C (tLst (tCons te tNil)) (tLst1 m) := fun N H σ env e s Q h => by
  refine ha N H σ env e s _ (PostR.imp (PostR.bind h) fun t N1 H1 g1 h1 v H2 f e2 rt nd fr => ?_)
  refine ⟨by show 1 ≤ sizeLine; decide, fun p hp => ?_⟩
  have pf : p ∉ f := fun hpf => by
    obtain ⟨o, ho, _⟩ := RT.kinds t rt p hpf
    rw [hp] at ho; cases ho
  have r2 : RT K N1 (upd H2 p (.lst [v])) v t f := RT.mono (Same.refl _) t (fun a ha => upd_ne (fun (z : a = p) => pf (z ▸ ha))) rt
  refine h1 N1 H1 (Gr.refl g1.nh) (.ref p) (upd H2 p (.lst [v])) (p :: (f ++ [])) (fun a o q => ?_) (.l upd_same (.cons r2 .nil)) ?_ fun a ha => ?_
  · have := e2 a o q
    rw [upd_ne (ne_of_none this hp)]
    exact this
  · rw [List.append_nil]
    exact List.nodup_cons.mpr ⟨pf, nd⟩
  · rw [List.append_nil] at ha
    rcases List.mem_cons.mp ha with rfl | ha
    · exact e2.free hp
    · exact fr a ha
/-! bodies -/
def PostD (K : PySem.W.Frag) (C : Cn) (B : Bs) (D : Ends) (d : Nat) (e : Env) (x : DR) : Prop := match x with
  | .ret y => ∀ N H v H'' f, Gr B.m B.h N H → Sub H H'' → RT K N H'' v (ownTr d y) f → f.Nodup → (∀ a ∈ f, H a = none) → D.rt v H''
  | .exc q => ∃ w, C.W = some w ∧ ∀ cls x M H σ fs, SR K B M H σ e fs → C.XR H cls x q → w cls x σ H
  | .bad => False
def PostT (K : PySem.W.Frag) (C : Cn) (B : Bs) (D : Ends) (d : Nat) (r : Rt) (fl : Flow) : Prop := match fl with
  | .next e => PostD K C B D d e (retT d r e)
  | .exc q e => ∃ w, C.W = some w ∧ ∀ cls x M H σ fs, SR K B M H σ e fs → C.XR H cls x q → w cls x σ H
  | _ => False
theorem retT_sl {d i : Nat} {env : Env} {y : DR} (h : retT d (.sl i) env = y) (hy : y ≠ .bad) : ∃ t, env[i]? = some (.oT t) ∧ shape d t = true ∧ y = .ret t.val := by
  have h : (match env[i]? with
    | some (.oT t) => if shape d t = true then DR.ret t.val else .bad
    | _ => .bad) = y := h
  split at h
  · rename_i t ht
    split at h
    · rename_i hs; exact ⟨t, ht, hs, h.symm⟩
    · exact absurd h.symm hy
  · exact absurd h.symm hy
theorem retT_ex {d : Nat} {m : ET} {env : Env} {y : DR} (h : retT d (.ex m) env = y) (hy : y ≠ .bad) : (∃ t, m (hide env) = .ok t ∧ shape d t = true ∧ y = .ret t.val) ∨ ∃ q, m (hide env) = .exc q ∧ y = .exc q := by
  have h : (match m (hide env) with
    | .ok t => if shape d t = true then DR.ret t.val else .bad
    | .exc q => .exc q
    | .bad => .bad) = y := h
  split at h
  · rename_i t ht
    split at h
    · rename_i hs; exact .inl ⟨t, ht, hs, h.symm⟩
    · exact absurd h.symm hy
  · rename_i q hq; exact .inr ⟨q, hq, h.symm⟩
  · exact absurd h.symm hy
def EvST (K : PySem.W.Frag) (C : Cn) (d : Nat) (t : TS) (m : ST) (r : Rt) : Prop := ∀ B M H σ env fs, SR K B M H σ env fs → ∀ D, PostT K C B D d r (m env) → t D σ H
theorem est_sl {d i : Nat} : EvST K C d (tRet (tVar i)) sNext (.sl i) := fun B M H σ env fs S D h => by
  have h : PostD K C B D d env (retT d (.sl i) env) := h
  obtain ⟨t, hs, hsh, hr⟩ := retT_sl (d := d) (i := i) (env := env) rfl (fun z => by rw [z] at h; exact h)
  rw [hr] at h
  have h : ∀ N H v H'' f, Gr B.m B.h N H → Sub H H'' → RT K N H'' v (ownTr d t.val) f → f.Nodup → (∀ a ∈ f, H a = none) → D.rt v H'' := h
  obtain ⟨v0, v', f', h1, h2, h3, h4, h5, _⟩ := S.foc (b := false) (p := []) hs rfl
  cases h2
  refine ⟨v0, h1, ?_⟩
  rw [shape_own d t hsh] at h
  refine h M (fun a => if a ∈ f' then none else H a) v0 H f' ⟨fun a o q => ?_, S.g.nn, fun a o q => ?_, S.g.nw⟩ (fun a o q => ?_) h3 h4 fun a ha => if_pos ha
  · show (if a ∈ f' then none else H a) = some o
    rw [if_neg fun ha => by rw [(S.fr a (h5 a ha)).2] at q; cases q]
    exact S.g.hh a o q
  · show (if a ∈ f' then none else H a) = some o
    rw [if_neg fun ha => by rw [(S.fr a (h5 a ha)).1] at q; cases q]
    exact S.g.nh a o q
  · have q : (if a ∈ f' then none else H a) = some o := q
    split at q
    · cases q
    · exact q
theorem est_ex {d : Nat} {te : TE} {m : ET} (ha : EvT K C te m) : EvST K C d (tRet te) sNext (.ex m) := fun B M H σ env fs S D h => by
  have h : PostD K C B D d env (retT d (.ex m) env) := h
  refine ha M H σ (hide env) S.g.nh S.sl.hid _ ?_
  rcases retT_ex (d := d) (m := m) (env := env) rfl (fun z => by rw [z] at h; exact h) with ⟨t, hm, hsh, hr⟩ | ⟨q, hm, hr⟩
  · rw [hr] at h
    have h : ∀ N H v H'' f, Gr B.m B.h N H → Sub H H'' → RT K N H'' v (ownTr d t.val) f → f.Nodup → (∀ a ∈ f, H a = none) → D.rt v H'' := h
    rw [shape_own d t hsh] at h
    rw [hm]
    intro N' H' g v H'' f e rt nd fr
    exact h N' H' v H'' f (S.g.trans g) e rt nd fr
  · rw [hr] at h
    obtain ⟨w, h1, h2⟩ := h
    rw [hm]
    exact ⟨w, h1, fun cls x N' H' g hx => h2 cls x N' H' σ fs (S.behindH g) hx⟩
theorem est_cons {d : Nat} {t u : TS} {m n : ST} {r : Rt} (h1 : EvS K C t m) (h2 : EvST K C d u n r) : EvST K C d (tSeq t u) (sSeq m n) r := fun B M H σ env fs S D h => by
  refine h1 B M H σ env fs S { D with nx := u D } ?_
  have h : PostT K C B D d r ((m env).bind n) := h
  cases hm : m env with
  | next e =>
    rw [hm] at h
    intro M' H' σ' fs' S'
    exact h2 B M' H' σ' e fs' S' D h
  | brk e => rw [hm] at h; exact h.elim
  | cont e => rw [hm] at h; exact h.elim
  | ret e => rw [hm] at h; exact h.elim
  | exc q e => rw [hm] at h; exact h
  | bad => rw [hm] at h; exact h.elim
theorem est_freeze {d : Nat} {t : TS} {m : ST} {i : Nat} {r : Rt} (h1 : EvST K C d t m r) : EvST K C d t (sSeq (sFreeze i) m) r := fun B M H σ env fs S D h => by
  have h : PostT K C B D d r ((sFreeze i env).bind m) := h
  unfold sFreeze at h
  split at h
  · rename_i xs hx
    obtain ⟨M', fs', S'⟩ := S.freeze hx
    exact h1 B M' H σ _ fs' S' D h
  · exact h.elim
end
structure SSsT (X : Cx) (C : Cn) (d : Nat) (st : List Stmt) (t : TS) (m : ST) (r : Rt) : Prop where
  ps : PSs X st t
  ev : EvST X.K C d t m r
section
variable {X : Cx} {C : Cn} {a b : Expr} {ta : TE} {ma : EX} {pos p : Pos} {es : List Expr} {rest : List Stmt} {st : Stmt} {t u : TS} {n m : ST} {d : Nat} {r : Rt}
theorem sT_sl (i : Nat) {x : Str} (hN : X.N[i]? = some x := by rfl) (hv : Vis X.env.scope x := by first | exact Or.inl rfl | exact Or.inr (Or.inl rfl) | exact Or.inr (Or.inr rfl)) (hd : (x == ("__debug__" : Str)) = false := by decide)
    (hcd : (x == ("__classdict__" : Str)) = false := by decide) : SSsT X C d [.Return (some (.Name x p)) pos] (tRet (tVar i)) sNext (.sl i) := ⟨pss_one (ps_ret (pv i hN hv hd hcd)), est_sl⟩
theorem sT_ex {me : ET} (h : STr X C a ta me) : SSsT X C d [.Return (some a) pos] (tRet ta) sNext (.ex me) := ⟨pss_one (ps_ret h.pe), est_ex h.ev⟩
theorem sT_cons (h : SSt X C st t m) (q : SSsT X C d rest u n r) : SSsT X C d (st :: rest) (tSeq t u) (sSeq m n) r := ⟨pss_cons h.ps q.ps, est_cons h.ev q.ev⟩
theorem sT_freeze (i : Nat) (q : SSsT X C d rest u n r) : SSsT X C d rest u (sSeq (sFreeze i) n) r := ⟨q.ps, est_freeze q.ev⟩
theorem str_call {x : Str} {j k : Nat} {f : Fn} {ts : TA} {ml : EL} (c : CalT X.prog X.w X.K X.mg X.base C.XR x j k d f) (hr : Room j X.A) (hl : Lets X C) (ha : SA X C (b :: es) ts ml)
    (hg : Gl X x := by rfl) (hdb : (x == ("__debug__" : Str)) = false := by decide) (he : starEach (b :: es) X.env = (false, eval b X.env) :: starEach es X.env := by rfl) (hpl : (backTo pos (starEach es X.env)).any (·.1) = false := by rfl) :
    STr X C (.Call (.Name x p) (b :: es) [] pos) (tCallS (spFT X.K C.XR k d f) (CE C) ts) (tCallT d f ml) := by
  obtain ⟨a, fd, ps, F, hm, hkp, hb⟩ := c.ex
  exact ⟨pe_callS F hr hg hm hkp hb hl ha.pe hdb he hpl, et_call c.ln ha.ev⟩
theorem str_lst1 {me : ET} (h : STr X C a ta me) (hs : starEach [a] X.env = (false, eval a X.env) :: starEach [] X.env := by rfl) : STr X C (.List [a] pos) (tLst (tCons ta tNil)) (tLst1 me) := ⟨pe_lst (pa_cons h.pe pa_nil hs), et_lst1 h.ev⟩
end
def BodyT (P : Program) (w : World) (K : PySem.W.Frag) (mg : Str → Option Value) (base : Heap) (XR : XRel) (j : Nat) (N : List Str) (qual : Str) (scope : Scope) (d : Nat) (body : List Stmt) (m : ST) (r : Rt) : Prop :=
  ∀ (f : Addr) (cd : Value) (A : Around) (outer : List PySem.Env) (s : Shared) (H : Hp) (E : XK) (W : WX), let X := FX P w K mg base N qual scope f cd A outer s H E
    Takes X W → Fr X ⟨XR, some W⟩ → Room j X.A → ∃ t, SSsT X ⟨XR, some W⟩ d body t m r
theorem defnT_ne {k n d : Nat} {m : ST} {r : Rt} {xs : List Val} (h : defnT k n d m r xs ≠ .bad) : xs.length = k := by
  unfold defnT at h
  split at h
  · assumption
  · exact absurd rfl h
section
variable {P : Program} {w : World} {K : PySem.W.Frag} {mg : Str → Option Value} {base : Heap} {XR : XRel}
theorem fnT_ok {x qual : Str} {params : Arguments} {body : List Stmt} {scope : Scope} {dvs : List V} {kws : List (Str × V)} {f : Addr} {fd : FuncData} {N ps : List Str} {j k n d : Nat} {m : ST} {r : Rt} (F : FunD K x qual params body scope dvs kws f fd) (S : FnScope N ps scope)
    (hk : ps.length = k) (hn : N.length = n) (hb : BodyT P w K mg base XR j N qual scope d body m r) : FnOk P w K mg base (L2.CX P w) (j + 1) f fd ps (spFT K XR k d (defnT k n d m r)) := by
  refine F.ok S (fun vs H Q E h => ?_) (fun cdv A outer s H vs Q E hr h => ?_)
  · obtain ⟨N0, xs, _, r, hl, _⟩ := h
    rw [r.length, hl, hk]
  · have tk : Takes (FX P w K mg base N qual scope f cdv A outer s H E) (fun cls d _ H => E cls d H) := takes_of rfl rfl rfl rfl
    obtain ⟨t, h1, h2⟩ := hb f cdv A outer s H E _ tk ⟨hr.units, rfl, Lets.of tk, passes_of rfl⟩ hr
    refine ⟨t, h1, ?_⟩
    obtain ⟨N0, xs, e, rr, hl, q⟩ := h
    have hst : SO K .non N0 H (L2.start N vs) (startE n xs) [] := by
      unfold L2.start startE
      rw [hn, rr.length]
      exact so_start rr
    refine h2 ⟨N0, H, fun _ => none, .non⟩ N0 H _ _ [] ⟨Gr.refl e, (fun a o q => nomatch q), (fun a ha => by cases ha), List.nodup_nil, hst⟩ _ ?_
    unfold defnT at q
    rw [if_pos hl] at q
    cases hm : m (startE n xs) with
    | next e =>
      rw [hm] at q
      have q : EndT K XR d N0 H Q E (retT d r e) := q
      show PostD K _ _ _ d e (retT d r e)
      cases hr : retT d r e with
      | ret y => rw [hr] at q; exact fun N' H' v H'' fv g e2 rt nd fr => q N' H' g v H'' fv e2 rt nd fr
      | exc z => rw [hr] at q; exact ⟨_, rfl, fun cls d M H' σ fs S' hx => q cls d M H' S'.g hx⟩
      | bad => rw [hr] at q; exact q
    | ret x => rw [hm] at q; exact q.elim
    | exc z e =>
      rw [hm] at q
      exact ⟨_, rfl, fun cls d M H' σ fs S' hx => q cls d M H' S'.g hx⟩
    | brk e => rw [hm] at q; exact q.elim
    | cont e => rw [hm] at q; exact q.elim
    | bad => rw [hm] at q; exact q.elim
theorem calT_of {x qual : Str} {params : Arguments} {body : List Stmt} {scope : Scope} {f : Addr} {fd : FuncData} {N ps : List Str} {j k n d : Nat} {m : ST} {r : Rt} (F : FunD K x qual params body scope [] [] f fd) (gm : mg x = some (.ref f)) (S : FnScope N ps scope)
    (hb : ∀ (kV doc pm : Value) (an : Option Addr) (cdv ct : Value) (us : List Value), us.length = ps.length → bindArgs (PySem.W.fnOf x qual params body scope .none kV doc pm an cdv ct) ⟨us, []⟩ = pure (ps.zip us))
    (hk : ps.length = k) (hn : N.length = n) (h : BodyT P w K mg base XR j N qual scope d body m r) : CalT P w K mg base XR x (j + 1) k d (defnT k n d m r) :=
  ⟨⟨f, fd, ps, fnT_ok F S hk hn h, gm, F.kp, F.bindsN hb⟩, fun _ => defnT_ne⟩
end
end Vm

/-! The value machine over HandS: fields; methods that change their object. -/
namespace Vm
open PySem L2 PyProof.Rows
/-- x.f, x a frozen object of the class c -/
def eFld (c f : Str) (a : EX) : EX := fun env => (a env).bind fun
  | .ob c' fs => if c' = c then Res.ofOpt (fs.lookup f) else .bad
  | _ => .bad
inductive MR where
  | ret (y : Val) (t : Tr)
  | exc (q : Exn) (t : Tr)
  | bad
abbrev MFn := Tr → List Val → MR
def startM (n : Nat) (t : Tr) (xs : List Val) : Env := .me t :: (xs.map Slot.sh ++ List.replicate (n - 1 - xs.length) Slot.un)
/-- what self holds -/
def meOf : Env → Option Tr
  | Slot.me t :: _ => some t
  | _ => none
theorem meOf_eq : ∀ {e : Env} {t : Tr}, meOf e = some t → e[0]? = some (Slot.me t)
  | [], _, h => by cases h
  | .me u :: _, t, h => by cases h; rfl
  | .un :: _, _, h => by cases h
  | .sh _ :: _, _, h => by cases h
  | .oL _ :: _, _, h => by cases h
  | .oD _ :: _, _, h => by cases h
  | .oT _ :: _, _, h => by cases h
/-- a method of k parameters behind self, n slots in all -/
def endM : Flow → MR
  | .next e => (match meOf e with
    | some t => .ret .non t
    | none => .bad)
  | .ret x e => (match meOf e with
    | some t => if x.noLst = true then .ret x t else .bad
    | none => .bad)
  | .exc q e => (match meOf e with
    | some t => .exc q t
    | none => .bad)
  | _ => .bad
def defnM (k n : Nat) (m : ST) : MFn := fun t xs => if xs.length = k then endM (m (startM n t xs)) else .bad
/-- behind a method: what stays, what is new; fv, fv' what the object owns before and behind -/
structure Aft (N H : Hp) (fv : List Addr) (N' H' : Hp) (fv' : List Addr) : Prop where
  nn : Sub N N'
  nh : Sub N' H'
  out : ∀ a, a ∉ fv → ∀ o, H a = some o → H' a = some o
  nw : ∀ a, N' a ≠ none → N a ≠ none ∨ (a ∈ fv ∨ H a = none)
  nd : fv'.Nodup
  fr : ∀ a ∈ fv', N' a = none ∧ (a ∈ fv ∨ H a = none)
def EndM (K : PySem.W.Frag) (XR : XRel) (N H : Hp) (fv : List Addr) (v0 : V) (Q : VK) (E : XK) (x : MR) : Prop := match x with
  | .ret y t => ∀ N' H' fv', Aft N H fv N' H' fv' → RT K N' H' v0 t fv' → ∀ v, RV K N' v y → Q v H'
  | .exc q t => ∀ cls d N' H' fv', Aft N H fv N' H' fv' → RT K N' H' v0 t fv' → XR H' cls d q → E cls d H'
  | .bad => False
def spM (K : PySem.W.Frag) (XR : XRel) (k : Nat) (f : MFn) : Sp := fun vs H Q E => ∃ v0 vs' N t fv xs, vs = v0 :: vs' ∧ Sub N H ∧ RT K N H v0 t fv ∧ fv.Nodup ∧ (∀ a ∈ fv, N a = none) ∧ RVs K N vs' xs ∧ xs.length = k ∧ EndM K XR N H fv v0 Q E (f t xs)
section
variable {K : PySem.W.Frag} {C : Cn}
theorem RFs.look {N : Hp} : ∀ {vs : List (Str × V)} {xs : List (Str × Val)} {f : Str} {x : Val}, RFs K N vs xs → xs.lookup f = some x → ∃ v, vs.lookup f = some v ∧ RV K N v x
  | _, _, f, x, .nil, h => by cases h
  | _, _, f, x, .cons (k := k) r rr, h => by
    rw [List.lookup_cons] at h
    cases hb : f == k with
    | true =>
      rw [hb] at h
      cases h
      exact ⟨_, by rw [List.lookup_cons, hb], r⟩
    | false =>
      rw [hb] at h
      obtain ⟨v, h1, h2⟩ := RFs.look rr h
      exact ⟨v, by rw [List.lookup_cons, hb]; exact h1, h2⟩
theorem ev_fld {ta : TE} {ma : EX} {c f : Str} (hc : Cls K (He.ga K c)) (hn : NoAttr K (He.ga K c) f) (ha : EvE K C ta ma) : EvE K C (tFld K ta f) (eFld c f ma) := fun N H σ env e s Q h => by
  refine ha N H σ env e s _ (PostR.imp (PostR.bind h) fun x N1 H1 g1 h1 v rv => ?_)
  cases rv with
  | @ob a dx c' fs ys hN rf =>
    by_cases hcc : c' = c
    · subst hcc
      replace h1 : PostR C σ N1 H1 (if c' = c' then Res.ofOpt (ys.lookup f) else .bad) _ := h1
      rw [if_pos rfl] at h1
      cases hl : ys.lookup f with
      | none => rw [hl] at h1; exact h1.elim
      | some y =>
        rw [hl] at h1
        obtain ⟨u, h2, h3⟩ := RFs.look rf hl
        exact ⟨a, _, dx, fs, u, rfl, g1.nh _ _ hN, hc, hn, h2, h1 N1 H1 (Gr.refl g1.nh) u h3⟩
    · replace h1 : PostR C σ N1 H1 (if c' = c then Res.ofOpt (ys.lookup f) else .bad) _ := h1
      rw [if_neg hcc] at h1
      exact h1.elim
  | _ => exact h1.elim
/-- the end of a method -/
theorem SR.meEnd {N H : Hp} {fv : List Addr} {v0 : V} {M H' : Hp} {σ : L2.St} {e : Env} {fs : List Addr} {t : Tr} (S : SR K ⟨N, fun a => if a ∈ fv then none else H a, fun _ => none, v0⟩ M H' σ e fs) (he : e[0]? = some (.me t)) :
    ∃ fv', RT K M H' v0 t fv' ∧ (∀ a ∈ fv', a ∈ fs) ∧ ∀ N', Sub M N' → Sub N' H' → (∀ a, N' a ≠ none → N a ≠ none ∨ (if a ∈ fv then none else H a) = none) → (∀ a ∈ fv', N' a = none) → Aft N H fv N' H' fv' := by
  obtain ⟨s0, f1, f, f2, h1, h2, h3, h4⟩ := S.sl.at he
  have nd := S.nd
  rw [h2] at nd
  have hfs : ∀ a ∈ f, a ∈ fs := fun a ha => by rw [h2]; simp [ha]
  have cases' : ∀ a, (if a ∈ fv then none else H a) = none → a ∈ fv ∨ H a = none := fun a q => by
    by_cases ha : a ∈ fv
    · exact .inl ha
    · rw [if_neg ha] at q; exact .inr q
  cases h3 with
  | me r =>
    refine ⟨f, r, hfs, fun N' em en nw fr => ⟨S.g.nn.trans em, en, fun a ha o q => ?_, fun a q => ?_, (List.nodup_append.mp (List.nodup_append.mp nd).2.1).1, fun a ha => ⟨fr a ha, cases' a (S.fr a (hfs a ha)).2⟩⟩⟩
    · exact S.g.hh a o (by show (if a ∈ fv then none else H a) = some o; rw [if_neg ha]; exact q)
    · rcases nw a q with h | h
      · exact .inl h
      · exact .inr (cases' a h)
theorem endM_next {e : Env} (h : endM (.next e) ≠ .bad) : ∃ t, e[0]? = some (.me t) ∧ endM (.next e) = .ret .non t := by
  cases hm : meOf e with
  | none => exact absurd (by simp only [endM, hm]) h
  | some t => exact ⟨t, meOf_eq hm, by simp only [endM, hm]⟩
theorem endM_exc {q : Exn} {e : Env} (h : endM (.exc q e) ≠ .bad) : ∃ t, e[0]? = some (.me t) ∧ endM (.exc q e) = .exc q t := by
  cases hm : meOf e with
  | none => exact absurd (by simp only [endM, hm]) h
  | some t => exact ⟨t, meOf_eq hm, by simp only [endM, hm]⟩
theorem endM_ret {x : Val} {e : Env} (h : endM (.ret x e) ≠ .bad) : ∃ t, e[0]? = some (.me t) ∧ x.noLst = true ∧ endM (.ret x e) = .ret x t := by
  cases hm : meOf e with
  | none => exact absurd (by simp only [endM, hm]) h
  | some t =>
    by_cases hn : x.noLst = true
    · exact ⟨t, meOf_eq hm, hn, by simp only [endM, hm, if_pos hn]⟩
    · exact absurd (by simp only [endM, hm, if_neg hn]) h
end
section
variable {P : Program} {w : World} {K : PySem.W.Frag} {mg : Str → Option Value} {base : Heap} {XR : XRel}
theorem fnM_ok {x qual : Str} {params : Arguments} {body : List Stmt} {scope : Scope} {dvs : List V} {kws : List (Str × V)} {f : Addr} {fd : FuncData} {N ps : List Str} {j k n : Nat} {m : ST} (F : FunD K x qual params body scope dvs kws f fd) (S : FnScope N ps scope)
    (hk : ps.length = k + 1) (hn : N.length = n) (hb : Body P w K mg base XR j N qual scope body m) : FnOk P w K mg base (L2.CX P w) (j + 1) f fd ps (spM K XR k (defnM k n m)) := by
  refine F.ok S (fun vs H Q E h => ?_) (fun cdv A outer s H vs Q E hr h => ?_)
  · obtain ⟨v0, vs', N0, t, fv, xs, rfl, _, _, _, _, r, hl, _⟩ := h
    rw [List.length_cons, r.length, hl, hk]
  · have tk : Takes (FX P w K mg base N qual scope f cdv A outer s H E) (fun cls d _ H => E cls d H) := takes_of rfl rfl rfl rfl
    obtain ⟨t, h1, h2⟩ := hb f cdv A outer s H E _ tk ⟨hr.units, rfl, Lets.of tk, passes_of rfl⟩ hr
    refine ⟨t, h1, ?_⟩
    obtain ⟨v0, vs', N0, tr, fv, xs, rfl, e, rt, nd, fr, rr, hl, q⟩ := h
    have hst : SO K v0 N0 H (L2.start N (v0 :: vs')) (startM n tr xs) fv := by
      have h3 : L2.start N (v0 :: vs') = some v0 :: (vs'.map some ++ List.replicate (n - 1 - xs.length) none) := by
        unfold L2.start
        rw [hn, List.length_cons, rr.length, List.map_cons, List.cons_append]
        congr 3
        omega
      rw [h3]
      have := SO.cons (f := fv) (fs := []) (SlR1.me rt) (so_start (me := v0) (n := n - 1 - xs.length) rr)
      rw [List.append_nil] at this
      exact this
    let Bm : Bs := ⟨N0, fun a => if a ∈ fv then none else H a, fun _ => none, v0⟩
    have S0 : SR K Bm N0 H (L2.start N (v0 :: vs')) (startM n tr xs) fv := by
      refine ⟨⟨fun a o q => ?_, Same.refl _, e, fun a q => .inl q⟩, (fun a o q => nomatch q), fun a ha => ⟨fr a ha, if_pos ha⟩, nd, hst⟩
      have q : (if a ∈ fv then none else H a) = some o := q
      split at q
      · cases q
      · exact q
    refine h2 Bm N0 H _ _ fv S0 _ ?_
    unfold defnM at q
    rw [if_pos hl] at q
    have qb : endM (m (startM n tr xs)) ≠ .bad := fun z => by rw [z] at q; exact q
    cases hm : m (startM n tr xs) with
    | next e =>
      rw [hm] at q qb
      obtain ⟨t', he, hq⟩ := endM_next qb
      rw [hq] at q
      intro M H' σ fs S'
      obtain ⟨fv', r', sub, mk⟩ := SR.meEnd S' he
      exact q M H' fv' (mk M (Same.refl _) S'.g.nh S'.g.nw fun a ha => (S'.fr a (sub a ha)).1) r' .non .non
    | ret x e =>
      rw [hm] at q qb
      obtain ⟨t', he, hno, hq⟩ := endM_ret qb
      rw [hq] at q
      intro M N' H' v σ fs S' em hk2 g rv
      obtain ⟨fv', r', sub, mk⟩ := SR.meEnd S' he
      have em2 : Sub M (part N' fs) := fun a o q => by
        unfold part
        rw [if_neg fun h => by rw [(S'.fr a h).1] at q; cases q]
        exact em a o q
      refine q (part N' fs) H' fv' (mk (part N' fs) em2 (fun a o q => ?_) (fun a q => ?_) fun a ha => if_pos (sub a ha)) (RT.mono em2 t' (fun a ha => rfl) r') v (RV.strip hk2 x rv hno)
      · unfold part at q
        split at q
        · cases q
        · exact g.nh a o q
      · unfold part at q
        split at q
        · exact absurd rfl q
        · exact g.nw a q
    | exc z e =>
      rw [hm] at q qb
      obtain ⟨t', he, hq⟩ := endM_exc qb
      rw [hq] at q
      refine ⟨_, rfl, fun cls d M H' σ fs S' hx => ?_⟩
      obtain ⟨fv', r', sub, mk⟩ := SR.meEnd S' he
      exact q cls d M H' fv' (mk M (Same.refl _) S'.g.nh S'.g.nw fun a ha => (S'.fr a (sub a ha)).1) r' hx
    | brk e => rw [hm] at qb; exact absurd rfl qb
    | cont e => rw [hm] at qb; exact absurd rfl qb
    | bad => rw [hm] at qb; exact absurd rfl qb
end
end Vm

/-! x = d[k]: a frozen element of an own dict. -/
namespace Vm
open PySem L2 PyProof.Rows
def sGetD (i j : Nat) (b : EX) : ST := fun env => match env[j]? with
  | some (.oD kvs) => (b (hide env)).flow env fun k => match (keyOfV k).bind (getV kvs) with
    | some y => if i < env.length then .next (env.set i (.sh y)) else .bad
    | none => .bad
  | _ => .bad
section
variable {K : PySem.W.Frag} {C : Cn}
theorem es_getD {ti : TE} {b : EX} {i j : Nat} (hb : EvE K C ti b) : EvS K C (tAsg (tOp (rIxV K) (tVar j) ti) (gName i)) (sGetD i j b) := fun B M H σ env fs S D h => by
  unfold sGetD at h
  split at h
  · rename_i kvs hx
    obtain ⟨a, vs, h1, h2, h3, _⟩ := S.writeD hx
    refine ⟨.ref a, h1, ?_⟩
    refine hb M H σ (hide env) S.g.nh S.sl.hid _ (post_hid S h fun x M' H' _ g S' hq v rv => ?_)
    cases hk : keyOfV x with
    | none => rw [hk] at hq; exact hq.elim
    | some q =>
      rw [hk] at hq
      cases hg : getV kvs q with
      | none =>
        have hq : PostF K C B D (match getV kvs q with
          | some y => if i < env.length then .next (env.set i (.sh y)) else .bad
          | none => .bad) := hq
        rw [hg] at hq; exact hq.elim
      | some y =>
        have hq : PostF K C B D (match getV kvs q with
          | some y => if i < env.length then .next (env.set i (.sh y)) else .bad
          | none => .bad) := hq
        rw [hg] at hq
        obtain ⟨hi, hq⟩ := PostF.ite hq
        obtain ⟨a', vs', k1, k2, k3, _⟩ := S'.writeD hx
        rw [h1] at k1
        cases k1
        have gg := k3.get (k := q)
        rw [hg] at gg
        obtain ⟨u, u1, u2⟩ := gg
        refine .inr ⟨a, u, rfl, ?_, ?_⟩
        · rw [keyOf_rv rv hk, ← u1]
          exact DGet.k k2
        · obtain ⟨fs', S2⟩ := S'.putV (i := i) u2
          exact hq M' H' _ fs' S2
  · exact h.elim
/-- x = d[k] -/
theorem ss_getD {X : Cx} {x y : Str} {bx : Expr} {tb : TE} {mb : EX} {p p2 pos pos2 : Pos} (i j : Nat) (F : Fr X C) (hb : SE X C bx tb mb)
    (hj : X.N[j]? = some y := by rfl) (hv : Vis X.env.scope y := by first | exact .inl rfl | exact .inr rfl) (hd : (y == ("__debug__" : Str)) = false := by decide) (hcd : (y == ("__classdict__" : Str)) = false := by decide)
    (hsi : PlainIx bx := by intro _ _; rfl)
    (hs : swapsWith (.Subscript (.Name y p2) bx pos2) (some (.Name x p)) pos.line X.env = pure false := by rfl) (hN : X.N.Nodup := by assumption) (hi : X.N[i]? = some x := by rfl) (hx : Loc X.env.scope x := by first | exact .inl rfl | exact .inr rfl)
    (hf : X.fn x = true ∨ X.env.scope.names.lookup x = some .local := by first | exact .inr rfl | exact .inl rfl) :
    SSt X C (.Assign [.Name x p] (.Subscript (.Name y p2) bx pos2) pos) (tAsg (tOp (rIxV X.K) (tVar j) tb) (gName i)) (sGetD i j mb) :=
  ss_asg i (pe_ix (ix_V F.u1) (pv j hj hv hd hcd) hb.pe hsi) (es_getD hb.ev) hs hN hi hx hf
end
end Vm

/-! for k in d, d an own dict: locked while it is walked. -/
namespace Vm
open PySem L2 PyProof.Rows
def keyVal : Key → Val
  | .inl i => .int i
  | .inr s => .str s
section
variable {K : PySem.W.Frag} {C : Cn}
theorem RV.key {N : Hp} (k : Key) : RV K N (kV k) (keyVal k) := by
  cases k with
  | inl i => exact .int i
  | inr s => exact .str s
theorem rks_getK {N : Hp} : ∀ {vs : List (L2.Key × V)} {xs : List (Key × Val)} {i : Nat} {k : L2.Key} {v : V}, RKs K N vs xs → vs[i]? = some (k, v) → ∃ x, xs[i]? = some (k, x)
  | _, _, i, _, _, .nil, h => by simp at h
  | _, _, 0, k, v, .cons (x := x) h r, e => by
    simp at e
    obtain ⟨rfl, _⟩ := e
    exact ⟨_, rfl⟩
  | _, _, i + 1, k, v, .cons h r, e => by
    simp at e
    obtain ⟨x, hx⟩ := rks_getK r e
    exact ⟨x, by simpa using hx⟩
theorem RKs.len {N : Hp} : ∀ {vs : List (L2.Key × V)} {xs : List (Key × Val)}, RKs K N vs xs → vs.length = xs.length
  | _, _, .nil => rfl
  | _, _, .cons _ r => congrArg (· + 1) (RKs.len r)
theorem walkV_keys {N : Hp} {d : Addr} {od : Obj} {vs : List (L2.Key × V)} {xs : List (Key × Val)} (h : N d = some (.frz od (.dK vs))) (r : RKs K N vs xs) : WalkV K N (Itk d od vs) (xs.map fun kv => keyVal kv.1) := by
  refine ⟨_, _, by rw [List.length_map, ← r.len]; exact walk_keys, fun H e => e _ _ h, fun i H v H' hi e y => ?_⟩
  obtain ⟨rfl, k, w, h1, rfl⟩ := y
  obtain ⟨x, hx⟩ := rks_getK r h1
  exact ⟨N, keyVal k, Gr.refl e, by rw [List.getElem?_map, hx]; rfl, RV.key k⟩
variable {a : Addr} {od : Obj} {us : List (L2.Key × V)} {N N' : Hp}
/-- N' is N with the lock at a taken off -/
structure Unl (a : Addr) (od : Obj) (us : List (L2.Key × V)) (N N' : Hp) : Prop where
  ne : ∀ b o, b ≠ a → N b = some o → N' b = some o
  at1 : N a = some (.frz od (.dK us))
  at2 : N' a = some (.dK us)
theorem Unl.other (u : Unl a od us N N') {b : Addr} {o : HO} (h : N b = some o) (hn : o ≠ .frz od (.dK us)) : N' b = some o := by
  by_cases hb : b = a
  · subst hb; rw [u.at1] at h; cases h; exact absurd rfl hn
  · exact u.ne b o hb h
theorem Unl.dct (u : Unl a od us N N') {b : Addr} {kvs : List (L2.Key × V)} (h : SqD N b kvs) : SqD N' b kvs := by
  rcases h with h | ⟨o, h⟩
  · exact .inl (u.other h fun z => nomatch z)
  · by_cases hb : b = a
    · subst hb; rw [u.at1] at h; cases h; exact .inl u.at2
    · exact .inr ⟨o, u.ne b _ hb h⟩
theorem Unl.lst (u : Unl a od us N N') {b : Addr} {xs : List V} (h : SqL K N b xs) : SqL K N' b xs := by
  rcases h with (h | ⟨o, h⟩) | h
  · exact .inl (.inl (u.other h fun z => nomatch z))
  · exact .inl (.inr ⟨o, u.other h fun z => nomatch z⟩)
  · exact .inr h
theorem Unl.tup (u : Unl a od us N N') {b : Addr} {xs : List V} (h : SqT K N b xs) : SqT K N' b xs := by
  rcases h with (h | ⟨o, h⟩) | h
  · exact .inl (.inl (u.other h fun z => nomatch z))
  · exact .inl (.inr ⟨o, u.other h fun z => nomatch z⟩)
  · exact .inr h
mutual
theorem RV.unl (u : Unl a od us N N') : ∀ (x : Val) {v : V}, RV K N v x → RV K N' v x
  | .non, _, .non => .non
  | .bl _, _, .bl b => .bl b
  | .int _, _, .int i => .int i
  | .str _, _, .str x => .str x
  | .tup xs, _, .tup h r => .tup (u.tup h) (RVs.unl u xs r)
  | .lst xs, _, .lst h r => .lst (u.lst h) (RVs.unl u xs r)
  | .dct xs, _, .dct h r => .dct (u.dct h) (RKs.unl u xs r)
  | .dcT xs, _, .dcT h r => .dcT (u.other h fun z => nomatch z) (RTs.unl u xs r)
  | .ob c xs, _, .ob h r => .ob (u.other h fun z => nomatch z) (RFs.unl u xs r)
theorem RVs.unl (u : Unl a od us N N') : ∀ (xs : List Val) {vs : List V}, RVs K N vs xs → RVs K N' vs xs
  | [], _, .nil => .nil
  | x :: xs, _, .cons h r => .cons (RV.unl u x h) (RVs.unl u xs r)
theorem RKs.unl (u : Unl a od us N N') : ∀ (xs : List (Key × Val)) {vs : List (L2.Key × V)}, RKs K N vs xs → RKs K N' vs xs
  | [], _, .nil => .nil
  | (_, x) :: xs, _, .cons h r => .cons (RV.unl u x h) (RKs.unl u xs r)
theorem RTs.unl (u : Unl a od us N N') : ∀ (xs : List (List Key × Val)) {vs : List (List L2.Key × V)}, RTs K N vs xs → RTs K N' vs xs
  | [], _, .nil => .nil
  | (_, x) :: xs, _, .cons h r => .cons (RV.unl u x h) (RTs.unl u xs r)
theorem RFs.unl (u : Unl a od us N N') : ∀ (xs : List (Str × Val)) {vs : List (Str × V)}, RFs K N vs xs → RFs K N' vs xs
  | [], _, .nil => .nil
  | (_, x) :: xs, _, .cons h r => .cons (RV.unl u x h) (RFs.unl u xs r)
end
variable {M M' H H' : Hp} {me : V} {σ : L2.St} {env : Env} {fs : List Addr} {B : Bs}
mutual
theorem RT.unl (u : Unl a od us M M') : ∀ (t : Tr) {v : V} {f : List Addr}, (∀ a ∈ f, H' a = H a) → RT K M H v t f → RT K M' H' v t f
  | .v x, _, _, _, .v r => .v (RV.unl u x r)
  | .l ts, _, _, eh, .l h r => .l (by rw [eh _ List.mem_cons_self]; exact h) (RTl.unl u ts (fun a ha => eh a (List.mem_cons_of_mem _ ha)) r)
  | .d ts, _, _, eh, .d h r => .d (by rw [eh _ List.mem_cons_self]; exact h) (RTd.unl u ts (fun a ha => eh a (List.mem_cons_of_mem _ ha)) r)
  | .dT ts, _, _, eh, .dT h r => .dT (by rw [eh _ List.mem_cons_self]; exact h) (RTt.unl u ts (fun a ha => eh a (List.mem_cons_of_mem _ ha)) r)
  | .o c ts, _, _, eh, .o h h' r => .o (by rw [eh _ List.mem_cons_self]; exact h) (by rw [eh _ (List.mem_cons_of_mem _ List.mem_cons_self)]; exact h') (RTo.unl u ts (fun a ha => eh a (List.mem_cons_of_mem _ (List.mem_cons_of_mem _ ha))) r)
theorem RTl.unl (u : Unl a od us M M') : ∀ (ts : List Tr) {vs : List V} {f : List Addr}, (∀ a ∈ f, H' a = H a) → RTl K M H vs ts f → RTl K M' H' vs ts f
  | [], _, _, _, .nil => .nil
  | t :: ts, _, _, eh, .cons r r' => .cons (RT.unl u t (fun a ha => eh a (List.mem_append_left _ ha)) r) (RTl.unl u ts (fun a ha => eh a (List.mem_append_right _ ha)) r')
theorem RTd.unl (u : Unl a od us M M') : ∀ (ts : List (Key × Tr)) {vs : List (L2.Key × V)} {f : List Addr}, (∀ a ∈ f, H' a = H a) → RTd K M H vs ts f → RTd K M' H' vs ts f
  | [], _, _, _, .nil => .nil
  | (_, t) :: ts, _, _, eh, .cons r r' => .cons (RT.unl u t (fun a ha => eh a (List.mem_append_left _ ha)) r) (RTd.unl u ts (fun a ha => eh a (List.mem_append_right _ ha)) r')
theorem RTt.unl (u : Unl a od us M M') : ∀ (ts : List (List Key × Tr)) {vs : List (List L2.Key × V)} {f : List Addr}, (∀ a ∈ f, H' a = H a) → RTt K M H vs ts f → RTt K M' H' vs ts f
  | [], _, _, _, .nil => .nil
  | (_, t) :: ts, _, _, eh, .cons r r' => .cons (RT.unl u t (fun a ha => eh a (List.mem_append_left _ ha)) r) (RTt.unl u ts (fun a ha => eh a (List.mem_append_right _ ha)) r')
theorem RTo.unl (u : Unl a od us M M') : ∀ (ts : List (Str × Tr)) {vs : List (Str × V)} {f : List Addr}, (∀ a ∈ f, H' a = H a) → RTo K M H vs ts f → RTo K M' H' vs ts f
  | [], _, _, _, .nil => .nil
  | (_, t) :: ts, _, _, eh, .cons r r' => .cons (RT.unl u t (fun a ha => eh a (List.mem_append_left _ ha)) r) (RTo.unl u ts (fun a ha => eh a (List.mem_append_right _ ha)) r')
end
theorem SlR1.unl (u : Unl a od us M M') {s : Option V} {e : Slot} {f : List Addr} (eh : ∀ b ∈ f, H' b = H b) (h : SlR1 K me M H s e f) : SlR1 K me M' H' s e f := by
  cases h with
  | un => exact .un _
  | sh r => exact .sh (RV.unl u _ r)
  | oL h r => exact .oL (by rw [eh _ List.mem_cons_self]; exact h) (RVs.unl u _ r)
  | oD h r => exact .oD (by rw [eh _ List.mem_cons_self]; exact h) (RKs.unl u _ r)
  | oT r => exact .oT (RT.unl u _ eh r)
  | me r => exact .me (RT.unl u _ eh r)
theorem so_unl (u : Unl a od us M M') (eh : ∀ b ∈ fs, H' b = H b) (h : SO K me M H σ env fs) : SO K me M' H' σ env fs := by
  induction h with
  | nil => exact .nil
  | cons r _ ih => exact .cons (SlR1.unl u (fun a ha => eh a (List.mem_append_left _ ha)) r) (ih fun a ha => eh a (List.mem_append_right _ ha))
theorem Unl.upd (h : M a = some (.frz od (.dK us))) : Unl a od us M (upd M a (.dK us)) := ⟨fun b o hb q => by rw [upd_ne hb]; exact q, h, upd_same⟩
theorem sub_unl {N : Hp} (hn : N a = none) (e : Sub N M) : Sub N (upd M a (.dK us)) := fun b o q => by rw [upd_ne (ne_of_none q hn)]; exact e b o q
theorem gr_unl {N L : Hp} (h : M a = some (.frz od (.dK us))) (hn : N a = none) (hl : L a = none) (g : Gr N L M H) : Gr N L (upd M a (.dK us)) (upd H a (.dK us)) := by
  refine ⟨sub_unl hl g.hh, sub_unl hn g.nn, fun b o q => ?_, fun b q => ?_⟩
  · by_cases hb : b = a
    · subst hb; rw [upd_same] at q ⊢; exact q
    · rw [upd_ne hb] at q ⊢; exact g.nh b o q
  · by_cases hb : b = a
    · subst hb; exact .inr hl
    · rw [upd_ne hb] at q; exact g.nw b q
/-- the lock taken off -/
theorem sr_unl {M1 : Hp} (e1 : Sub B.l M1) (h1 : M1 a = some (.frz od (.dK us))) (hm : B.m a = none) (hh : B.h a = none) (hl : B.l a = none) (S : SR K { B with l := M1 } M H σ env fs) : H a = some (.frz od (.dK us)) ∧ SR K B (upd M a (.dK us)) (upd H a (.dK us)) σ env fs := by
  have hM : M a = some (.frz od (.dK us)) := S.lo _ _ h1
  have hne : ∀ b ∈ fs, b ≠ a := fun b hb z => by
    subst z
    have := (S.fr b hb).1
    rw [hM] at this
    cases this
  refine ⟨S.g.nh _ _ hM, gr_unl hM hm hh S.g, sub_unl hl (e1.trans S.lo), fun b hb => ⟨by rw [upd_ne (hne b hb)]; exact (S.fr b hb).1, (S.fr b hb).2⟩, S.nd, so_unl (Unl.upd hM) (fun b hb => upd_ne (hne b hb)) S.sl⟩
/-- a walk whose values are known -/
theorem es_walk {C : Cn} {D : Ends} {g : TG} {put : Put} {is : List Nat} {t : TS} {m : ST} (hp : EvP K g put is) (h1 : EvS K C t m) {xs : List Val} {J : It} {M1 H1 : Hp} (S1 : SR K B M1 H1 σ env fs) (hq : PostF K C B D (forL put m xs env)) (hJ : WalkV K M1 J xs) : tFor (fun _ H R => R J H) g t D σ H1 := by
  obtain ⟨G, Y, w, hG, hY⟩ := hJ
  refine for_it w (fun i σ H => ∃ M env fs, Sub M1 M ∧ SR K B M H σ env fs ∧ PostF K C B D (forL put m (xs.drop i) env)) ⟨M1, env, fs, Same.refl _, S1, by rw [List.drop_zero]; exact hq⟩ ?_ ?_ ?_
  · rintro i σ H hi ⟨M, env, fs, e, S, _⟩
    exact hG H fun a o q => S.g.nh a o (e a o q)
  · rintro i v σ Hi Hx hi ⟨M, env, fs, e, S, hf⟩ y
    obtain ⟨Nx, x, gx, hx, rx⟩ := hY i Hi v Hx hi (fun a o q => S.g.nh a o (e a o q)) y
    rw [List.drop_eq_getElem_cons hi] at hf
    have hxe : xs[i] = x := by rw [List.getElem?_eq_getElem hi] at hx; exact Option.some.inj hx
    rw [hxe] at hf
    -- the frozen part: with what the item made
    let Nu : Hp := fun a => if Nx a = none then M a else Nx a
    have gu : Gr M Hi Nu Hx := by
      refine ⟨gx.hh, fun a o q => ?_, fun a o q => ?_, fun a q => ?_⟩
      · show (if Nx a = none then M a else Nx a) = some o
        by_cases hz : Nx a = none
        · rw [if_pos hz]; exact q
        · rw [if_neg hz]
          cases hq : Nx a with
          | none => exact absurd hq hz
          | some o' =>
            have h1 := gx.nh a o' hq
            have h2 := gx.hh a o (S.g.nh a o q)
            rw [h1] at h2
            exact h2
      · have q' : (if Nx a = none then M a else Nx a) = some o := q
        by_cases hz : Nx a = none
        · rw [if_pos hz] at q'; exact gx.hh a o (S.g.nh a o q')
        · rw [if_neg hz] at q'; exact gx.nh a o q'
      · have q' : (if Nx a = none then M a else Nx a) ≠ none := q
        by_cases hz : Nx a = none
        · rw [if_pos hz] at q'; exact .inl q'
        · rcases gx.nw a hz with h1 | h1
          · cases hq : M1 a with
            | none => exact absurd hq h1
            | some o => exact .inl (by rw [e a o hq]; simp)
          · exact .inr h1
    have u1 : Sub Nx Nu := fun a o q => by show (if Nx a = none then M a else Nx a) = some o; rw [if_neg (by rw [q]; simp)]; exact q
    have S2 := S.behindH gu
    have hf' : PostF K C B D ((put x env).nx.flow env fun e => match m e with
        | .next e' => forL put m (xs.drop (i + 1)) e'
        | .cont e' => forL put m (xs.drop (i + 1)) e'
        | .brk e' => .next e'
        | .ret v e' => .ret v e'
        | .exc q e' => .exc q e'
        | .bad => .bad) := hf
    cases hput : put x env with
    | bad => rw [hput] at hf'; exact hf'.elim
    | exc q => rw [hput] at hf'; exact hf'.elim
    | ok e1 =>
      rw [hput] at hf'
      refine hp Nu Hx σ env v x e1 S2.g.nh (rx.mono u1) hput _ fun l hl he => ?_
      obtain ⟨fs', S3⟩ := S2.sets (l := l) fun t ht => (hl t ht).2
      rw [← he] at S3
      have eu : Sub M1 Nu := e.trans gu.nn
      refine h1 { B with l := M1 } Nu Hx _ e1 fs' (S3.at_low eu) _ ?_
      have hf2 : PostF K C B D (match m e1 with
        | .next e' => forL put m (xs.drop (i + 1)) e'
        | .cont e' => forL put m (xs.drop (i + 1)) e'
        | .brk e' => .next e'
        | .ret v e' => .ret v e'
        | .exc q e' => .exc q e'
        | .bad => .bad) := hf'
      cases hm : m e1 with
      | next e => rw [hm] at hf2; exact fun M' H' σ' fs' S' => ⟨M', e, fs', S'.lo, S'.of_low S1.lo, hf2⟩
      | cont e => rw [hm] at hf2; exact fun M' H' σ' fs' S' => ⟨M', e, fs', S'.lo, S'.of_low S1.lo, hf2⟩
      | brk e => rw [hm] at hf2; exact fun M' H' σ' fs' S' => hf2 M' H' σ' fs' (S'.of_low S1.lo)
      | ret v ev => rw [hm] at hf2; exact fun M2 N2 H2 v2 σ2 fs2 S2 sb hk g rv => hf2 M2 N2 H2 v2 σ2 fs2 (S2.of_low S1.lo) sb hk g rv
      | exc q e =>
        rw [hm] at hf2
        obtain ⟨w, q1, q2⟩ := hf2
        exact ⟨w, q1, fun cls d M H σ fs S' hx => q2 cls d M H σ fs (S'.of_low S1.lo) hx⟩
      | bad => rw [hm] at hf2; exact hf2.elim
  · rintro σ H ⟨M, env, fs, e, S, hf⟩
    rw [List.drop_length] at hf
    exact hf M H σ fs S
/-- for k in d, d the slot's own dict, which changes no more from here on -/
def sForK (j : Nat) (put : Put) (m : ST) : ST := fun env => match env[j]? with
  | some (.oD xs) => forL put m (xs.map fun kv => keyVal kv.1) (env.set j (.sh (.dct xs)))
  | _ => .bad
theorem SR.lockD (S : SR K B M H σ env fs) {i : Nat} {xs : List (Key × Val)} (hi : env[i]? = some (.oD xs)) : ∃ a vs, σ[i]? = some (some (.ref a)) ∧ H a = some (.dK vs) ∧ M a = none ∧ B.h a = none ∧ ∀ od, RKs K (upd M a (.frz od (.dK vs))) vs xs ∧ ∃ fs', SR K B (upd M a (.frz od (.dK vs))) (upd H a (.frz od (.dK vs))) σ (env.set i (.sh (.dct xs))) fs' := by
  obtain ⟨s0, f1, f, f2, h1, h2, h3, h4⟩ := S.sl.at hi
  cases h3 with
  | @oD a vs _ ha r =>
    have hfs : a ∈ fs := by rw [h2]; simp
    have hne : ∀ b ∈ f1 ++ f2, b ≠ a := fun b hb z => by
      subst z
      have hn := S.nd
      rw [h2, List.nodup_append] at hn
      obtain ⟨_, n2, n3⟩ := hn
      rcases List.mem_append.mp hb with hb | hb
      · exact n3 b hb b (by simp) rfl
      · rw [List.nodup_append] at n2
        exact n2.2.2 b (by simp) b hb rfl
    have hB := (S.fr a hfs).2
    have hM := (S.fr a hfs).1
    refine ⟨a, vs, h1, ha, hM, hB, fun od => ?_⟩
    have em : Sub M (upd M a (.frz od (.dK vs))) := fun b o q => by rw [upd_ne (ne_of_none q hM)]; exact q
    have hsl := h4 (M' := upd M a (.frz od (.dK vs))) (H' := upd H a (.frz od (.dK vs))) em (fun b hb => upd_ne (hne b hb)) (.sh (v := .ref a) (.dct (.inr ⟨od, upd_same⟩) (RKs.mono em _ r)))
    have hset : σ.set i (some (.ref a)) = σ := by
      obtain ⟨hl, he⟩ := List.getElem?_eq_some_iff.mp h1
      rw [← he, List.set_getElem_self]
    rw [hset] at hsl
    refine ⟨RKs.mono em _ r, _, ⟨fun b o q => ?_, fun b o q => em b o (S.g.nn b o q), fun b o q => ?_, fun b q => ?_⟩, S.lo.trans em, fun b hb => ?_, ?_, hsl⟩
    · rw [upd_ne (ne_of_none q hB)]; exact S.g.hh b o q
    · by_cases hb : b = a
      · subst hb; rw [upd_same] at q ⊢; exact q
      · rw [upd_ne hb] at q ⊢; exact S.g.nh b o q
    · by_cases hb : b = a
      · subst hb; exact .inr hB
      · rw [upd_ne hb] at q; exact S.g.nw b q
    · have hb' : b ∈ f1 ++ f2 := by simpa using hb
      have hbf : b ∈ fs := by
        rw [h2]; simp only [List.mem_append] at hb' ⊢; rcases hb' with h | h <;> simp [h]
      exact ⟨by rw [upd_ne (hne b hb')]; exact (S.fr b hbf).1, (S.fr b hbf).2⟩
    · exact nodup_mid (by rw [← h2]; exact S.nd) .nil fun a ha => by cases ha
/-- the ends of a locked statement -/
def lkD (a : Addr) (od : Obj) (u : HO) (D : Ends) : Ends := ⟨fun σ' H' => H' a = some (.frz od u) ∧ D.nx σ' (upd H' a u), fun v H' => H' a = some (.frz od u) ∧ D.rt v (upd H' a u), fun σ' H' => H' a = some (.frz od u) ∧ D.bk σ' (upd H' a u), fun σ' H' => H' a = some (.frz od u) ∧ D.ct σ' (upd H' a u)⟩
theorem post_unl {C : Cn} {D : Ends} {M1 : Hp} {r : Flow} (e1 : Sub B.l M1) (h1 : M1 a = some (.frz od (.dK us))) (hm : B.m a = none) (hh : B.h a = none) (hl : B.l a = none) (h : PostF K C B D r) : PostF K C { B with l := M1 } (lkD a od (.dK us) D) r := by
  cases r with
  | next e =>
    intro M H σ fs S
    obtain ⟨p, q⟩ := sr_unl e1 h1 hm hh hl S
    exact ⟨p, h _ _ _ _ q⟩
  | brk e =>
    intro M H σ fs S
    obtain ⟨p, q⟩ := sr_unl e1 h1 hm hh hl S
    exact ⟨p, h _ _ _ _ q⟩
  | cont e =>
    intro M H σ fs S
    obtain ⟨p, q⟩ := sr_unl e1 h1 hm hh hl S
    exact ⟨p, h _ _ _ _ q⟩
  | ret x e =>
    intro M N H v σ fs S em kn gr rv
    obtain ⟨p, q⟩ := sr_unl e1 h1 hm hh hl S
    have hN : N a = some (.frz od (.dK us)) := em _ _ (S.lo _ _ h1)
    refine ⟨p, h (upd M a (.dK us)) (upd N a (.dK us)) (upd H a (.dK us)) v σ fs q (fun b o hb => ?_) (fun b hb => ?_) (gr_unl hN hm hh gr) (RV.unl (Unl.upd hN) _ rv)⟩
    · by_cases hz : b = a
      · subst hz; rw [upd_same] at hb ⊢; exact hb
      · rw [upd_ne hz] at hb ⊢; exact em b o hb
    · have hz : b ≠ a := fun z => by
        subst z
        have := (q.fr b hb).1
        rw [upd_same] at this
        cases this
      rw [upd_ne hz]
      exact kn b hb
  | exc z e =>
    obtain ⟨w, hw, hk⟩ := h
    exact ⟨w, hw, fun cls d M H σ fs S hx => hk cls d M H σ fs (SR.of_low e1 S) hx⟩
  | bad => exact h
theorem es_forK {C : Cn} {j : Nat} {g : TG} {put : Put} {is : List Nat} {t : TS} {m : ST} (hp : EvP K g put is) (h1 : EvS K C t m) : EvS K C (tLock (tFor (iKeys (tVar j)) g t)) (sForK j put m) := fun B M H σ env fs S D h => by
  unfold sForK at h
  split at h
  · rename_i xs hx
    obtain ⟨a, vs, k1, k2, k3, k4, k5⟩ := S.lockD hx
    refine ⟨a, .dK vs, k2, trivial, fun od => ?_⟩
    obtain ⟨r, fs', S1⟩ := k5 od
    have em : Sub M (upd M a (.frz od (.dK vs))) := fun b o q => by rw [upd_ne (ne_of_none q k3)]; exact q
    have hn : ∀ {L : Hp}, Sub L M → L a = none := fun {L} e => by
      cases hq : L a with
      | none => rfl
      | some o => have := e a o hq; rw [k3] at this; cases this
    have W := es_walk (D := lkD a od (.dK vs) D) hp h1 (S1.at_low (Same.refl _)) (post_unl (S.lo.trans em) upd_same (hn S.g.nn) k4 (hn S.lo) h) (walkV_keys upd_same r)
    exact ⟨.ref a, k1, a, od, rfl, .inl ⟨vs, upd_same, W⟩⟩
  · exact h.elim
/-- for k in d -/
theorem ss_forK {X : Cx} {C : Cn} {y : Str} {p pos : Pos} {tg : Expr} {g : TG} {put : Put} {is : List Nat} {as : List Stmt} {t : TS} {m : ST} (j : Nat) (F : Fr X C) (hp : STg X tg g put is) (ha : SSs X C as t m)
    (hj : X.N[j]? = some y := by rfl) (hv : Vis X.env.scope y := by first | exact .inl rfl | exact .inr rfl) (hd : (y == ("__debug__" : Str)) = false := by decide) (hcd : (y == ("__classdict__" : Str)) = false := by decide)
    (hs : ∀ x, foldedSetIterable (.Name y p) X.env x = pure x := by intro _; rfl) : SSt X C (.For tg (.Name y p) as [] pos) (tLock (tFor (iKeys (tVar j)) g t)) (sForK j put m) :=
  ⟨ps_lock (ps_for F.ow F.ca (pi_keys (pv j hj hv hd hcd)) hp.pe ha.ps hs), es_forK hp.ev ha.ev⟩
end
end Vm

/-! D.setdefault(k, []).append(e): a dict in a slot's tree. -/
namespace Vm
open PySem L2 PyProof.Rows
/-- {} as a new tree -/
def tNilD : ET := fun _ => .ok (.d [])
def setdT (ts : List (Key × Tr)) (k : Key) : List (Key × Tr) := match lookK ts k with
  | some _ => ts
  | none => ts ++ [(k, .l [])]
def treeAt (env : Env) (i : Nat) (π : List Stp) : Option Tr := match env[i]? with
  | some (.oT t) => getAt π t
  | some (.me t) => getAt π t
  | _ => none
def appAt (i : Nat) (π : List Stp) (m : EX) : ST := fun env => match treeAt env i π with
  | some (.l us) => (m (hide env)).flow env fun x => if us.length < 16777216 then putPl env i π (.l (us ++ [.v x])) else .bad
  | _ => .bad
/-- P.setdefault(k, []).append(e) -/
def sAtSetd (p : Pl) (k m : EX) : ST := fun env => (plAt p env).nx.flow env fun q => match q.2.2 with
  | .d ts => (k (hide env)).flow env fun x => match keyOfV x with
    | some key => if ts.length < 16777216 then (putPl env q.1 q.2.1 (.d (setdT ts key))).bind fun e2 => appAt q.1 (q.2.1 ++ [.ky key]) m e2 else .bad
    | none => .bad
  | _ => .bad
section
variable {K : PySem.W.Frag} {C : Cn} {B : Bs} {M H : Hp} {σ : L2.St} {env : Env} {fs : List Addr} {D : Ends}
theorem et_nilD : EvT K C tDNewK tNilD := fun N H σ env e s Q h p hp =>
  h N H (Gr.refl e) (.ref p) (upd H p (.dK [])) [p] (fun a o q => by rw [upd_ne (ne_of_none q hp)]; exact q) (.d upd_same .nil) (List.nodup_cons.mpr ⟨by simp, .nil⟩) (fun a ha => by rw [List.mem_singleton] at ha; subst ha; exact hp)
theorem getAt_setAt : ∀ (p : List Stp) {t t' u : Tr}, getAt p t = some t' → getAt p (setAt p u t) = some u
  | [], _, _, _, _ => rfl
  | .ix j :: p, .l ts, t', u, h => by
    unfold getAt at h
    split at h
    · rename_i t hj
      have : ∀ {ts : List Tr} {j : Nat} {t : Tr} {g : Tr → Tr}, ts[j]? = some t → (modL g ts j)[j]? = some (g t) := by
        intro ts
        induction ts with
        | nil => intro j t g h; simp at h
        | cons x ts ih =>
          intro j t g h
          cases j with
          | zero => simp at h; subst h; rfl
          | succ j => exact ih (by simpa using h)
      show getAt (.ix j :: p) (.l (modL (setAt p u) ts j)) = _
      unfold getAt
      rw [this hj]
      exact getAt_setAt p h
    · cases h
  | .ky k :: p, .d ts, t', u, h => by
    unfold getAt at h
    split at h
    · rename_i t hj
      have : ∀ {ts : List (Key × Tr)} {t : Tr} {g : Tr → Tr}, lookK ts k = some t → lookK (modK g ts k) k = some (g t) := by
        intro ts
        induction ts with
        | nil => intro t g h; cases h
        | cons x ts ih =>
          intro t g h
          obtain ⟨q, x⟩ := x
          unfold lookK at h
          unfold modK
          by_cases hq : q = k
          · rw [if_pos hq] at h ⊢
            cases h
            unfold lookK
            rw [if_pos hq]
          · rw [if_neg hq] at h ⊢
            unfold lookK
            rw [if_neg hq]
            exact ih h
      show getAt (.ky k :: p) (.d (modK (setAt p u) ts k)) = _
      unfold getAt
      rw [this hj]
      exact getAt_setAt p h
    · cases h
  | .fl k :: p, .o c ts, t', u, h => by
    unfold getAt at h
    split at h
    · rename_i t hj
      have : ∀ {ts : List (Str × Tr)} {t : Tr} {g : Tr → Tr}, lookF ts k = some t → lookF (modF g ts k) k = some (g t) := by
        intro ts
        induction ts with
        | nil => intro t g h; cases h
        | cons x ts ih =>
          intro t g h
          obtain ⟨q, x⟩ := x
          unfold lookF at h
          unfold modF
          by_cases hq : q = k
          · rw [if_pos hq] at h ⊢
            cases h
            unfold lookF
            rw [if_pos hq]
          · rw [if_neg hq] at h ⊢
            unfold lookF
            rw [if_neg hq]
            exact ih h
      show getAt (.fl k :: p) (.o c (modF (setAt p u) ts k)) = _
      unfold getAt
      rw [this hj]
      exact getAt_setAt p h
    · cases h
  | .ix _ :: _, .v _, _, _, h => by cases h
  | .ix _ :: _, .d _, _, _, h => by cases h
  | .ix _ :: _, .dT _, _, _, h => by cases h
  | .ix _ :: _, .o _ _, _, _, h => by cases h
  | .ky _ :: _, .v _, _, _, h => by cases h
  | .ky _ :: _, .l _, _, _, h => by cases h
  | .ky _ :: _, .dT _, _, _, h => by cases h
  | .ky _ :: _, .o _ _, _, _, h => by cases h
  | .fl _ :: _, .v _, _, _, h => by cases h
  | .fl _ :: _, .l _, _, _, h => by cases h
  | .fl _ :: _, .d _, _, _, h => by cases h
  | .fl _ :: _, .dT _, _, _, h => by cases h
/-- where a place stands, what lies ahead of it told -/
theorem RT.adr : ∀ (p : List Stp) {v : V} {t t' : Tr} {f : List Addr}, RT K M H v t f → getAt p t = some t' → ∃ v' f1 f' f2, addrAt H p v = some v' ∧ RT K M H v' t' f' ∧ f = f1 ++ (f' ++ f2) ∧ ∀ {H' : Hp}, (∀ a ∈ f1, H' a = H a) → addrAt H' p v = some v'
  | [], w, t, t', f, r, h => by
    cases h
    exact ⟨w, [], f, [], rfl, r, by simp, fun _ => rfl⟩
  | .ix j :: p, _, _, t', _, .l (a := a) (vs := vs) (ts := ts) ha r, h => by
    unfold getAt at h
    split at h
    · rename_i t hj
      obtain ⟨v, f1, f', f2, h1, h2, h3, _⟩ := RTl.foc ts r hj
      obtain ⟨v', g1, g', g2, k1, k2, k3, k4⟩ := RT.adr p h2 h
      subst k3; subst h3
      refine ⟨v', a :: (f1 ++ g1), g', g2 ++ f2, by unfold addrAt; rw [ha]; simp only [h1]; exact k1, k2, by simp, fun {H'} eh => ?_⟩
      unfold addrAt
      rw [eh a List.mem_cons_self, ha]
      simp only [h1]
      exact k4 fun b hb => eh b (by simp [hb])
    · cases h
  | .ky k :: p, _, _, t', _, .d (a := a) (vs := vs) (ts := ts) ha r, h => by
    unfold getAt at h
    split at h
    · rename_i t hj
      obtain ⟨v, f1, f', f2, h1, h2, h3, _⟩ := RTd.foc ts r hj
      obtain ⟨v', g1, g', g2, k1, k2, k3, k4⟩ := RT.adr p h2 h
      subst k3; subst h3
      refine ⟨v', a :: (f1 ++ g1), g', g2 ++ f2, by unfold addrAt; rw [ha]; simp only [h1]; exact k1, k2, by simp, fun {H'} eh => ?_⟩
      unfold addrAt
      rw [eh a List.mem_cons_self, ha]
      simp only [h1]
      exact k4 fun b hb => eh b (by simp [hb])
    · cases h
  | .fl k :: p, _, _, t', _, .o (a := a) (dx := dx) (c := c) (vs := vs) (ts := ts) ha hd r, h => by
    unfold getAt at h
    split at h
    · rename_i t hj
      obtain ⟨v, f1, f', f2, h1, h2, h3, _⟩ := RTo.foc ts r hj
      obtain ⟨v', g1, g', g2, k1, k2, k3, k4⟩ := RT.adr p h2 h
      subst k3; subst h3
      refine ⟨v', a :: dx :: (f1 ++ g1), g', g2 ++ f2, by unfold addrAt; rw [ha]; simp only [h1]; exact k1, k2, by simp, fun {H'} eh => ?_⟩
      unfold addrAt
      rw [eh a List.mem_cons_self, ha]
      simp only [h1]
      exact k4 fun b hb => eh b (by simp [hb])
    · cases h
  | .ix _ :: _, _, _, _, _, .v _, h => by cases h
  | .ix _ :: _, _, _, _, _, .d _ _, h => by cases h
  | .ix _ :: _, _, _, _, _, .dT _ _, h => by cases h
  | .ix _ :: _, _, _, _, _, .o _ _ _, h => by cases h
  | .ky _ :: _, _, _, _, _, .v _, h => by cases h
  | .ky _ :: _, _, _, _, _, .l _ _, h => by cases h
  | .ky _ :: _, _, _, _, _, .dT _ _, h => by cases h
  | .ky _ :: _, _, _, _, _, .o _ _ _, h => by cases h
  | .fl _ :: _, _, _, _, _, .v _, h => by cases h
  | .fl _ :: _, _, _, _, _, .l _ _, h => by cases h
  | .fl _ :: _, _, _, _, _, .d _ _, h => by cases h
  | .fl _ :: _, _, _, _, _, .dT _ _, h => by cases h
theorem SR.keep (S : SR K B M H σ env fs) {i : Nat} {b : Bool} {t : Tr} {ts : List (Key × Tr)} {p : List Stp} (hi : env[i]? = some (mkT b t)) (hg : getAt p t = some (.d ts)) {v0 : V} {a : Addr} (h1 : σ[i]? = some (some v0)) (h2 : addrAt H p v0 = some (.ref a)) {H' : Hp} (e : ∀ b, b ≠ a → ∀ o, H b = some o → H' b = some o) : addrAt H' p v0 = some (.ref a) := by
  obtain ⟨s0, g1, f, g2, k1, k2, k3, _⟩ := S.sl.at hi
  obtain ⟨v, rfl, r, _⟩ := k3.tree
  rw [h1] at k1
  cases k1
  obtain ⟨v', f1, f', f2, q1, q2, q3, q4⟩ := RT.adr p r hg
  rw [h2] at q1
  cases q1
  cases q2 with
  | @d _ vs _ f0 ha rd =>
    have nd := S.nd
    rw [k2] at nd
    have nd2 : f.Nodup := (List.nodup_append.mp (List.nodup_append.mp nd).2.1).1
    subst q3
    refine q4 fun c hc => ?_
    have hne : c ≠ a := fun z => (List.nodup_append.mp nd2).2.2 c hc a (by simp) z
    obtain ⟨o, ho, _⟩ := RT.kinds t r c (List.mem_append_left _ hc)
    rw [ho, e c hne o ho]
theorem lookK_none : ∀ {ts : List (Key × Tr)} {vs : List (L2.Key × V)} {f : List Addr} {k : Key}, RTd K M H vs ts f → lookK ts k = none → valV vs k = none
  | [], _, _, k, .nil, _ => rfl
  | (q, t) :: ts, _, _, k, .cons (v := v) (vs := vs) r r', h => by
    unfold lookK at h
    split at h
    · cases h
    · rename_i hq
      have := lookK_none r' h
      unfold valV at this ⊢
      rw [List.find?_cons]
      simp [hq, this]
theorem RTd.append : ∀ {ts us : List (Key × Tr)} {vs ws : List (L2.Key × V)} {f g : List Addr}, RTd K M H vs ts f → RTd K M H ws us g → RTd K M H (vs ++ ws) (ts ++ us) (f ++ g)
  | [], _, _, _, _, _, .nil, s => s
  | _ :: _, _, _, _, _, _, .cons h r, s => by rw [List.append_assoc]; exact .cons h (r.append s)
theorem RTd.length : ∀ {ts : List (Key × Tr)} {vs : List (L2.Key × V)} {f : List Addr}, RTd K M H vs ts f → vs.length = ts.length
  | [], _, _, .nil => rfl
  | _ :: _, _, _, .cons _ r => congrArg (· + 1) r.length
/-- behind what was evaluated the place's dict is written -/
theorem SR.atD (S : SR K B M H σ env fs) {i : Nat} {t : Tr} {ts : List (Key × Tr)} {p : List Stp} {bb : Bool} (hi : env[i]? = some (mkT bb t)) (hg : getAt p t = some (.d ts)) {v0 v' : V} (h1 : σ[i]? = some (some v0)) (h2 : addrAt H p v0 = some v') : ∃ a vs f, v' = .ref a ∧ H a = some (.dK vs) ∧ RTd K M H vs ts f ∧ a ∉ f ∧ f.Nodup ∧ (∀ b ∈ f, H b ≠ none) ∧
    ∀ {Hn : Hp} {ws : List (L2.Key × V)} {ts' : List (Key × Tr)} {f'' : List Addr}, Sub H Hn → RTd K M Hn ws ts' f'' → (a ∉ f'' ∧ f''.Nodup) → (∀ b ∈ f'', b ∈ f ∨ H b = none) → ∃ fs', SR K B M (upd Hn a (.dK ws)) σ (env.set i (mkT bb (setAt p (.d ts') t))) fs' := by
  obtain ⟨v0', v'', f', k1, k2, k3, k4, k5, h6⟩ := S.foc hi hg
  rw [h1] at k1; cases k1
  rw [h2] at k2; cases k2
  cases k3 with
  | @d a vs _ f ha r =>
    have nd := List.nodup_cons.mp k4
    refine ⟨a, vs, f, rfl, ha, r, nd.1, nd.2, fun b hb => by obtain ⟨o, q, _⟩ := RTd.kinds ts r b hb; rw [q]; simp, fun {Hn ws ts' f''} e q nd fr => ?_⟩
    have q' := RTd.mono (M' := M) (H' := upd Hn a (.dK ws)) (Same.refl _) ts' (fun b hb => upd_ne fun z => nd.1 (z ▸ hb)) q
    refine h6 (H' := upd Hn a (.dK ws)) (u := .d ts') (f'' := a :: f'') (fun b hb o qq => ?_) (.d upd_same q') (List.nodup_cons.mpr nd) (fun b hb => ?_)
    · rw [upd_ne fun z => hb (by rw [z]; exact List.mem_cons_self)]
      exact e b o qq
    · rcases List.mem_cons.mp hb with rfl | hb
      · exact .inl List.mem_cons_self
      · rcases fr b hb with h | h
        · exact .inl (List.mem_cons_of_mem _ h)
        · exact .inr h
theorem es_atSetd {tp tk te : TE} {p : Pl} {k m : EX} (hp : EvPl K tp p) (hk : EvE K C tk k) (ha : EvE K C te m) : EvS K C (tDrop (tBM K "list" rAppend (tDSetd tp tk (tLst tNil)) (tCons te tNil))) (sAtSetd p k m) := fun B M H σ env fs S D h => by
  show tDSetd tp tk (tLst tNil) σ H _
  refine pl_run hp S h fun i π t' bb t M1 H1 v0 v' _ ht hg S1 hv hw h => ?_
  cases t' with
  | d ts =>
    obtain ⟨a, vs, f, rfl, k1, _⟩ := S1.atD ht hg hv hw
    refine ⟨a, rfl, .inl ⟨vs, .inl k1⟩, ?_⟩
    refine hk M1 H1 σ (hide env) S1.g.nh S1.sl.hid _ (post_hid S1 h fun x M2 H2 _ g S2 hq y rv => ?_)
    cases hkey : keyOfV x with
    | none => rw [hkey] at hq; exact hq.elim
    | some key =>
      rw [hkey] at hq
      obtain ⟨hl, hq⟩ := PostF.ite hq
      refine ⟨Nat.zero_le _, fun p hp => ?_⟩
      have hw2 := addrAt_mono g.hh π hw
      obtain ⟨a', vs', f', e1, e2, e3, e4, e5, e6, e7⟩ := S2.atD ht hg hv hw2
      cases e1
      have hap : a ≠ p := fun z => by rw [z, hp] at e2; cases e2
      have e23 : Sub H2 (upd H2 p (.lst [])) := fun b o q => by rw [upd_ne (ne_of_none q hp)]; exact q
      have ea3 : upd H2 p (.lst []) a = some (.dK vs') := by rw [upd_ne hap]; exact e2
      -- what comes behind: the value u stands in the dict
      have behind : ∀ (H4 : Hp) (ts2 : List (Key × Tr)) (ws : List (L2.Key × V)) (u : V) (fs4 : List Addr), setdT ts key = ts2 → SR K B M2 H4 σ (env.set i (mkT bb (setAt π (.d ts2) t))) fs4 → H4 a = some (.dK ws) → valV ws key = some u → (∀ b, b ≠ a → ∀ o, H2 b = some o → H4 b = some o) → (∃ t'', lookK ts2 key = some t'') →
          ((∃ vs, u = .ref vs ∧ ∃ xs, SqL K H4 vs xs) → True) → (fun u H => tBM K "list" rAppend (fun _ H Q => Q u H) (tCons te tNil) σ H fun _ H => D.nx σ H) u H4 := by
        intro H4 ts2 ws u fs4 h2 S4 h4 hu hh hlk _
        obtain ⟨t'', hlk⟩ := hlk
        have hil : i < env.length := (List.getElem?_eq_some_iff.mp ht).1
        have ht4 : (env.set i (mkT bb (setAt π (.d ts2) t)))[i]? = some (mkT bb (setAt π (.d ts2) t)) := List.getElem?_set_self hil
        have hg4 : getAt π (setAt π (.d ts2) t) = some (.d ts2) := getAt_setAt π hg
        have hgk : getAt [.ky key] (.d ts2) = some t'' := by unfold getAt; rw [hlk]; rfl
        have hg5 := getAt_append π hg4 hgk
        have hw4 : addrAt H4 (π ++ [.ky key]) v0 = some u := by
          refine addrAt_append H4 π (S2.keep ht hg hv hw2 hh) ?_
          unfold addrAt
          rw [h4]
          simp only [hu]
          rfl
        rw [h2, putPl_at ht] at hq
        have hq : PostF K C B D (appAt i (π ++ [.ky key]) m (env.set i (mkT bb (setAt π (.d ts2) t)))) := hq
        unfold appAt at hq
        have tr : treeAt (env.set i (mkT bb (setAt π (.d ts2) t))) i (π ++ [.ky key]) = some t'' := by
          unfold treeAt
          rw [ht4]
          cases bb <;> exact hg5
        rw [tr] at hq
        cases t'' with
        | l us =>
          obtain ⟨a2, vs2, f2, rfl, q1, _⟩ := S4.atL ht4 hg5 hv hw4
          refine ⟨.inl ⟨rfl, vs2, SqL.of q1⟩, ?_⟩
          refine ha M2 H4 σ (hide _) S4.g.nh S4.sl.hid _ (post_hid S4 hq fun z M5 H5 _ g5 S5 hz w rw' => ?_)
          obtain ⟨hl5, hz⟩ := PostF.ite hz
          obtain ⟨a', vs5, f5, d1, d2, d3, d4, d5, d6, d7⟩ := S5.atL ht4 hg5 hv (addrAt_mono g5.hh _ hw4)
          cases d1
          refine ⟨a2, vs5, w, rfl, rfl, d2, by rw [line_eq, d3.length]; exact hl5, ?_⟩
          obtain ⟨fs', S6⟩ := d7 (ws := vs5 ++ [w]) (ts' := us ++ [.v z]) (f'' := f5 ++ []) (Same.refl _) (d3.append (.cons (f := []) (fs := []) (.v rw') .nil)) (by rw [List.append_nil]; exact ⟨d4, d5⟩) (fun b hb => .inl (by simpa using hb))
          rw [putPl_at ht4] at hz
          exact hz _ _ σ fs' S6
        | _ => exact hq.elim
      refine ⟨vs', key, ea3, keyOf_rv rv hkey, by rw [line_eq, e3.length]; exact hl, fun u hu => ?_, fun hn => ?_⟩
      · -- there already
        cases hlk : lookK ts key with
        | none => rw [lookK_none e3 hlk] at hu; cases hu
        | some t'' =>
          have hs : setdT ts key = ts := by unfold setdT; rw [hlk]
          have e3' := RTd.mono (M' := M2) (H' := upd H2 p (.lst [])) (Same.refl _) ts (fun b hb => by
            cases hz : H2 b with
            | none => exact absurd hz (e6 b hb)
            | some o => rw [e23 b o hz]) e3
          obtain ⟨fs4, S4⟩ := e7 (Hn := upd H2 p (.lst [])) (ws := vs') (ts' := ts) (f'' := f') e23 e3' ⟨e4, e5⟩ (fun b hb => .inl hb)
          have hup : upd (upd H2 p (.lst [])) a (.dK vs') = upd H2 p (.lst []) := by
            funext b
            by_cases hb : b = a
            · subst hb; rw [upd_same, ea3]
            · rw [upd_ne hb]
          rw [hup] at S4
          exact behind _ ts vs' u fs4 hs S4 ea3 hu (fun b _ o q => e23 b o q) ⟨_, hlk⟩ (fun _ => trivial)
      · have hlk : lookK ts key = none := by
          cases hlk : lookK ts key with
          | none => rfl
          | some t'' =>
            obtain ⟨v, _, _, _, z, _⟩ := RTd.foc ts e3 hlk
            rw [hn] at z; cases z
        have hs : setdT ts key = ts ++ [(key, .l [])] := by unfold setdT; rw [hlk]
        have e3' := RTd.mono (M' := M2) (H' := upd H2 p (.lst [])) (Same.refl _) ts (fun b hb => by
          cases hz : H2 b with
          | none => exact absurd hz (e6 b hb)
          | some o => rw [e23 b o hz]) e3
        have hpf : p ∉ f' := fun hb => e6 p hb hp
        have hnew : RTd K M2 (upd H2 p (.lst [])) [(key, V.ref p)] [(key, Tr.l [])] [p] := .cons (f := [p]) (fs := []) (.l upd_same .nil) .nil
        obtain ⟨fs4, S4⟩ := e7 (Hn := upd H2 p (.lst [])) (ws := vs' ++ [(key, .ref p)]) (ts' := ts ++ [(key, .l [])]) (f'' := f' ++ [p]) e23 (e3'.append hnew)
          ⟨fun hb => by
            rcases List.mem_append.mp hb with hb | hb
            · exact e4 hb
            · exact hap (List.mem_singleton.mp hb), List.nodup_append.mpr ⟨e5, List.nodup_cons.mpr ⟨by simp, .nil⟩, fun b hb c hc z => by
            rw [List.mem_singleton.mp hc] at z; subst z; exact hpf hb⟩⟩
          (fun b hb => by
            rcases List.mem_append.mp hb with hb | hb
            · exact .inl hb
            · rw [List.mem_singleton.mp hb]; exact .inr hp)
        have hpk : putK vs' key (V.ref p) = vs' ++ [(key, .ref p)] := putK_new _ hn
        rw [hpk]
        refine behind _ (ts ++ [(key, .l [])]) (vs' ++ [(key, .ref p)]) (.ref p) fs4 hs S4 upd_same ?_ (fun b hb o q => by rw [upd_ne hb]; exact e23 b o q) ⟨.l [], ?_⟩ (fun _ => trivial)
        · rw [← hpk, valV_put, if_pos rfl]
        · have : ∀ {ts : List (Key × Tr)}, lookK ts key = none → lookK (ts ++ [(key, .l [])]) key = some (.l []) := by
            intro ts
            induction ts with
            | nil => intro _; show (if key = key then _ else _) = _; rw [if_pos rfl]
            | cons x ts ih =>
              obtain ⟨q, x⟩ := x
              intro h
              unfold lookK at h
              show lookK ((q, x) :: (ts ++ [(key, .l [])])) key = _
              unfold lookK
              by_cases hq : q = key
              · rw [if_pos hq] at h; cases h
              · rw [if_neg hq] at h ⊢; exact ih h
          exact this hlk
  | _ => exact h.elim
end
section
variable {X : Cx} {C : Cn} {a b c : Expr} {ta tb tc tk tp : TE} {ma mb mc k m : EX} {pos p pos' : Pos}
theorem str_dict0 : STr X C (.Dict [] [] pos) tDNewK tNilD := ⟨pe_dnewK, et_nilD⟩
theorem ss_atSetd {o : Expr} {pa pb pl pos2 : Pos} {q : Pl} (ho : SPl X C o tp q) (hb : SE X C b tb mb) (ha : SE X C a ta ma)
    (m2 : M2 X o "setdefault" pa b (.List [] pl) p := by exact ⟨rfl, rfl, rfl, rfl⟩)
    (hbase : attributeBase (.Call (.Attribute o "setdefault" pa) [b, .List [] pl] [] p) "append" X.env (eval (.Call (.Attribute o "setdefault" pa) [b, .List [] pl] [] p) X.env) = eval (.Call (.Attribute o "setdefault" pa) [b, .List [] pl] [] p) X.env := by rfl)
    (hfew : ((backTo pos (starEach [a] X.env)).all (fun x => !x.1) && (backToKw pos (keywordEach [] X.env)).all (fun x => x.1.isSome)
      && decide ([a].length + ([] : List Keyword).length + (if ([] : List Keyword).isEmpty then 0 else 1) < 30)) = true := by rfl)
    (hline : (pb.endLine == pos.line) = true := by rfl) (hs : starEach [a] X.env = (false, eval a X.env) :: starEach [] X.env := by rfl) (hplain : (backTo pos (starEach [] X.env)).any (·.1) = false := by rfl)
    (hsw : swapsWith (.Call (.Attribute (.Call (.Attribute o "setdefault" pa) [b, .List [] pl] [] p) "append" pb) [a] [] pos) none pos2.line X.env = pure false := by rfl) :
    SSt X C (.Expr (.Call (.Attribute (.Call (.Attribute o "setdefault" pa) [b, .List [] pl] [] p) "append" pb) [a] [] pos) pos2) (tDrop (tBM X.K "list" rAppend (tDSetd tp tb (tLst tNil)) (tCons ta tNil))) (sAtSetd q mb ma) :=
  ⟨ps_expr (pe_bm PySem.F.plainAttrs_list PySem.F.slot_list_append PySem.F.type_list_append mt_append (pe_dsetd ho.pe hb.pe (pe_lst pa_nil) m2) (pa_cons ha.pe pa_nil hs) hbase hfew hline hs hplain) hsw, es_atSetd ho.ev hb.ev ha.ev⟩
end
end Vm

/-! A shared dict is locked while it is walked. -/
namespace Vm
open PySem L2 PyProof.Rows
section
variable {K : PySem.W.Frag} {C : Cn}
variable {a : Addr} {od : Obj} {us : List (L2.Key × V)} {N N' : Hp}
/-- N' is N with a lock put on at a -/
structure Lok (a : Addr) (od : Obj) (us : List (L2.Key × V)) (N N' : Hp) : Prop where
  ne : ∀ b o, b ≠ a → N b = some o → N' b = some o
  at1 : N a = some (.dK us)
  at2 : N' a = some (.frz od (.dK us))
theorem Lok.other (u : Lok a od us N N') {b : Addr} {o : HO} (h : N b = some o) (hn : o ≠ .dK us) : N' b = some o := by
  by_cases hb : b = a
  · subst hb; rw [u.at1] at h; cases h; exact absurd rfl hn
  · exact u.ne b o hb h
theorem Lok.dct (u : Lok a od us N N') {b : Addr} {kvs : List (L2.Key × V)} (h : SqD N b kvs) : SqD N' b kvs := by
  rcases h with h | ⟨o, h⟩
  · by_cases hb : b = a
    · subst hb; rw [u.at1] at h; cases h; exact .inr ⟨od, u.at2⟩
    · exact .inl (u.ne b _ hb h)
  · exact .inr ⟨o, u.other h fun z => nomatch z⟩
theorem Lok.lst (u : Lok a od us N N') {b : Addr} {xs : List V} (h : SqL K N b xs) : SqL K N' b xs := by
  rcases h with (h | ⟨o, h⟩) | h
  · exact .inl (.inl (u.other h fun z => nomatch z))
  · exact .inl (.inr ⟨o, u.other h fun z => nomatch z⟩)
  · exact .inr h
theorem Lok.tup (u : Lok a od us N N') {b : Addr} {xs : List V} (h : SqT K N b xs) : SqT K N' b xs := by
  rcases h with (h | ⟨o, h⟩) | h
  · exact .inl (.inl (u.other h fun z => nomatch z))
  · exact .inl (.inr ⟨o, u.other h fun z => nomatch z⟩)
  · exact .inr h
variable {M M' H H' : Hp} {me : V} {σ : L2.St} {env : Env} {fs : List Addr} {B : Bs}
mutual
theorem RV.lok (u : Lok a od us N N') : ∀ (x : Val) {v : V}, RV K N v x → RV K N' v x
  | .non, _, .non => .non
  | .bl _, _, .bl b => .bl b
  | .int _, _, .int i => .int i
  | .str _, _, .str x => .str x
  | .tup xs, _, .tup h r => .tup (u.tup h) (RVs.lok u xs r)
  | .lst xs, _, .lst h r => .lst (u.lst h) (RVs.lok u xs r)
  | .dct xs, _, .dct h r => .dct (u.dct h) (RKs.lok u xs r)
  | .dcT xs, _, .dcT h r => .dcT (u.other h fun z => nomatch z) (RTs.lok u xs r)
  | .ob c xs, _, .ob h r => .ob (u.other h fun z => nomatch z) (RFs.lok u xs r)
theorem RVs.lok (u : Lok a od us N N') : ∀ (xs : List Val) {vs : List V}, RVs K N vs xs → RVs K N' vs xs
  | [], _, .nil => .nil
  | x :: xs, _, .cons h r => .cons (RV.lok u x h) (RVs.lok u xs r)
theorem RKs.lok (u : Lok a od us N N') : ∀ (xs : List (Key × Val)) {vs : List (L2.Key × V)}, RKs K N vs xs → RKs K N' vs xs
  | [], _, .nil => .nil
  | (_, x) :: xs, _, .cons h r => .cons (RV.lok u x h) (RKs.lok u xs r)
theorem RTs.lok (u : Lok a od us N N') : ∀ (xs : List (List Key × Val)) {vs : List (List L2.Key × V)}, RTs K N vs xs → RTs K N' vs xs
  | [], _, .nil => .nil
  | (_, x) :: xs, _, .cons h r => .cons (RV.lok u x h) (RTs.lok u xs r)
theorem RFs.lok (u : Lok a od us N N') : ∀ (xs : List (Str × Val)) {vs : List (Str × V)}, RFs K N vs xs → RFs K N' vs xs
  | [], _, .nil => .nil
  | (_, x) :: xs, _, .cons h r => .cons (RV.lok u x h) (RFs.lok u xs r)
end
variable {M M' H H' : Hp} {me : V} {σ : L2.St} {env : Env} {fs : List Addr} {B : Bs}
mutual
theorem RT.lok (u : Lok a od us M M') : ∀ (t : Tr) {v : V} {f : List Addr}, (∀ a ∈ f, H' a = H a) → RT K M H v t f → RT K M' H' v t f
  | .v x, _, _, _, .v r => .v (RV.lok u x r)
  | .l ts, _, _, eh, .l h r => .l (by rw [eh _ List.mem_cons_self]; exact h) (RTl.lok u ts (fun a ha => eh a (List.mem_cons_of_mem _ ha)) r)
  | .d ts, _, _, eh, .d h r => .d (by rw [eh _ List.mem_cons_self]; exact h) (RTd.lok u ts (fun a ha => eh a (List.mem_cons_of_mem _ ha)) r)
  | .dT ts, _, _, eh, .dT h r => .dT (by rw [eh _ List.mem_cons_self]; exact h) (RTt.lok u ts (fun a ha => eh a (List.mem_cons_of_mem _ ha)) r)
  | .o c ts, _, _, eh, .o h h' r => .o (by rw [eh _ List.mem_cons_self]; exact h) (by rw [eh _ (List.mem_cons_of_mem _ List.mem_cons_self)]; exact h') (RTo.lok u ts (fun a ha => eh a (List.mem_cons_of_mem _ (List.mem_cons_of_mem _ ha))) r)
theorem RTl.lok (u : Lok a od us M M') : ∀ (ts : List Tr) {vs : List V} {f : List Addr}, (∀ a ∈ f, H' a = H a) → RTl K M H vs ts f → RTl K M' H' vs ts f
  | [], _, _, _, .nil => .nil
  | t :: ts, _, _, eh, .cons r r' => .cons (RT.lok u t (fun a ha => eh a (List.mem_append_left _ ha)) r) (RTl.lok u ts (fun a ha => eh a (List.mem_append_right _ ha)) r')
theorem RTd.lok (u : Lok a od us M M') : ∀ (ts : List (Key × Tr)) {vs : List (L2.Key × V)} {f : List Addr}, (∀ a ∈ f, H' a = H a) → RTd K M H vs ts f → RTd K M' H' vs ts f
  | [], _, _, _, .nil => .nil
  | (_, t) :: ts, _, _, eh, .cons r r' => .cons (RT.lok u t (fun a ha => eh a (List.mem_append_left _ ha)) r) (RTd.lok u ts (fun a ha => eh a (List.mem_append_right _ ha)) r')
theorem RTt.lok (u : Lok a od us M M') : ∀ (ts : List (List Key × Tr)) {vs : List (List L2.Key × V)} {f : List Addr}, (∀ a ∈ f, H' a = H a) → RTt K M H vs ts f → RTt K M' H' vs ts f
  | [], _, _, _, .nil => .nil
  | (_, t) :: ts, _, _, eh, .cons r r' => .cons (RT.lok u t (fun a ha => eh a (List.mem_append_left _ ha)) r) (RTt.lok u ts (fun a ha => eh a (List.mem_append_right _ ha)) r')
theorem RTo.lok (u : Lok a od us M M') : ∀ (ts : List (Str × Tr)) {vs : List (Str × V)} {f : List Addr}, (∀ a ∈ f, H' a = H a) → RTo K M H vs ts f → RTo K M' H' vs ts f
  | [], _, _, _, .nil => .nil
  | (_, t) :: ts, _, _, eh, .cons r r' => .cons (RT.lok u t (fun a ha => eh a (List.mem_append_left _ ha)) r) (RTo.lok u ts (fun a ha => eh a (List.mem_append_right _ ha)) r')
end
theorem SlR1.lok (u : Lok a od us M M') {s : Option V} {e : Slot} {f : List Addr} (eh : ∀ b ∈ f, H' b = H b) (h : SlR1 K me M H s e f) : SlR1 K me M' H' s e f := by
  cases h with
  | un => exact .un _
  | sh r => exact .sh (RV.lok u _ r)
  | oL h r => exact .oL (by rw [eh _ List.mem_cons_self]; exact h) (RVs.lok u _ r)
  | oD h r => exact .oD (by rw [eh _ List.mem_cons_self]; exact h) (RKs.lok u _ r)
  | oT r => exact .oT (RT.lok u _ eh r)
  | me r => exact .me (RT.lok u _ eh r)
theorem so_lok (u : Lok a od us M M') (eh : ∀ b ∈ fs, H' b = H b) (h : SO K me M H σ env fs) : SO K me M' H' σ env fs := by
  induction h with
  | nil => exact .nil
  | cons r _ ih => exact .cons (SlR1.lok u (fun a ha => eh a (List.mem_append_left _ ha)) r) (ih fun a ha => eh a (List.mem_append_right _ ha))

open Classical in
noncomputable def lkN (a : Addr) (od : Obj) (us : List (L2.Key × V)) (N : Hp) : Hp := fun b => if b = a ∧ N a = some (.dK us) then some (.frz od (.dK us)) else N b
theorem lkN_ne {b : Addr} (h : b ≠ a) : lkN a od us N b = N b := if_neg fun z => h z.1
theorem lkN_at (h : N a = some (.dK us)) : lkN a od us N a = some (.frz od (.dK us)) := if_pos ⟨rfl, h⟩
theorem lkN_none (h : N a = none) : lkN a od us N a = none := by unfold lkN; rw [if_neg (fun z => by rw [h] at z; cases z.2)]; exact h
/-- at a: nothing, or the dict -/
def AtD (a : Addr) (us : List (L2.Key × V)) (N : Hp) : Prop := N a = none ∨ N a = some (.dK us)
theorem AtD.of (h : M a = some (.dK us)) (e : Sub N M) : AtD a us N := by
  cases hq : N a with
  | none => exact .inl hq
  | some o => have := e a o hq; rw [h] at this; cases this; exact .inr hq
theorem sub_lk (h : M a = some (.dK us)) (e : Sub N M) : Sub (lkN a od us N) (upd M a (.frz od (.dK us))) := fun b o q => by
  by_cases hb : b = a
  · subst hb
    rcases AtD.of h e with hn | hn
    · rw [lkN_none hn] at q; cases q
    · rw [lkN_at hn] at q; rw [upd_same]; exact q
  · rw [lkN_ne hb] at q; rw [upd_ne hb]; exact e b o q
theorem sub_ul (hn : AtD a us N) (e : Sub (lkN a od us N) M) : Sub N (upd M a (.dK us)) := fun b o q => by
  by_cases hb : b = a
  · subst hb
    rcases hn with hn | hn
    · rw [hn] at q; cases q
    · rw [hn] at q; rw [upd_same]; exact q
  · rw [upd_ne hb]; exact e b o (by rw [lkN_ne hb]; exact q)
theorem gr_lk {L : Hp} (h : M a = some (.dK us)) (g : Gr N L M H) : Gr (lkN a od us N) (lkN a od us L) (upd M a (.frz od (.dK us))) (upd H a (.frz od (.dK us))) := by
  refine ⟨sub_lk (g.nh _ _ h) g.hh, sub_lk h g.nn, fun b o q => ?_, fun b q => ?_⟩
  · by_cases hb : b = a
    · subst hb; rw [upd_same] at q ⊢; exact q
    · rw [upd_ne hb] at q ⊢; exact g.nh b o q
  · by_cases hb : b = a
    · subst hb
      rcases g.nw b (by rw [h]; simp) with hz | hz
      · rcases AtD.of h g.nn with hn | hn
        · exact absurd hn hz
        · exact .inl (by rw [lkN_at hn]; simp)
      · exact .inr (lkN_none hz)
    · rw [upd_ne hb] at q; rw [lkN_ne hb, lkN_ne hb]; exact g.nw b q
theorem gr_ul {L : Hp} (h : M a = some (.frz od (.dK us))) (hn : AtD a us N) (hl : AtD a us L) (g : Gr (lkN a od us N) (lkN a od us L) M H) : Gr N L (upd M a (.dK us)) (upd H a (.dK us)) := by
  refine ⟨sub_ul hl g.hh, sub_ul hn g.nn, fun b o q => ?_, fun b q => ?_⟩
  · by_cases hb : b = a
    · subst hb; rw [upd_same] at q ⊢; exact q
    · rw [upd_ne hb] at q ⊢; exact g.nh b o q
  · by_cases hb : b = a
    · subst hb
      rcases g.nw b (by rw [h]; simp) with hz | hz
      · rcases hn with hn | hn
        · exact absurd (lkN_none hn) hz
        · exact .inl (by rw [hn]; simp)
      · rcases hl with hl | hl
        · exact .inr hl
        · rw [lkN_at hl] at hz; cases hz
    · rw [upd_ne hb] at q
      have := g.nw b q
      rw [lkN_ne hb, lkN_ne hb] at this
      exact this
/-- the bases, locked; what stands told -/
noncomputable def lkB (a : Addr) (od : Obj) (us : List (L2.Key × V)) (B : Bs) (L : Hp) : Bs := { B with m := lkN a od us B.m, h := lkN a od us B.h, l := L }
theorem SR.lockS (S : SR K B M H σ env fs) (h : M a = some (.dK us)) : SR K (lkB a od us B (upd M a (.frz od (.dK us)))) (upd M a (.frz od (.dK us))) (upd H a (.frz od (.dK us))) σ env fs := by
  have hne : ∀ b ∈ fs, b ≠ a := fun b hb z => by
    subst z
    have := (S.fr b hb).1
    rw [h] at this
    cases this
  exact ⟨gr_lk h S.g, Same.refl _, fun b hb => ⟨by rw [upd_ne (hne b hb)]; exact (S.fr b hb).1, by show lkN a od us B.h b = none; rw [lkN_ne (hne b hb)]; exact (S.fr b hb).2⟩, S.nd,
    so_lok ⟨fun b o hb q => by rw [upd_ne hb]; exact q, h, upd_same⟩ (fun b hb => upd_ne (hne b hb)) S.sl⟩
theorem SR.unlockS {M0 : Hp} (h0 : M0 a = some (.dK us)) (hm : AtD a us B.m) (hh : AtD a us B.h) (lo : Sub B.l M0) (S : SR K (lkB a od us B (upd M0 a (.frz od (.dK us)))) M H σ env fs) : H a = some (.frz od (.dK us)) ∧ SR K B (upd M a (.dK us)) (upd H a (.dK us)) σ env fs := by
  have hM : M a = some (.frz od (.dK us)) := S.lo _ _ upd_same
  have hne : ∀ b ∈ fs, b ≠ a := fun b hb z => by
    subst z
    have := (S.fr b hb).1
    rw [hM] at this
    cases this
  refine ⟨S.g.nh _ _ hM, gr_ul hM hm hh S.g, fun b o q => ?_, fun b hb => ⟨by rw [upd_ne (hne b hb)]; exact (S.fr b hb).1, ?_⟩, S.nd, so_unl (Unl.upd hM) (fun b hb => upd_ne (hne b hb)) S.sl⟩
  · by_cases hb : b = a
    · subst hb; have := lo b o q; rw [h0] at this; rw [upd_same]; exact this
    · rw [upd_ne hb]; exact S.lo b o (by show upd M0 a (.frz od (.dK us)) b = some o; rw [upd_ne hb]; exact lo b o q)
  · have : lkN a od us B.h b = none := (S.fr b hb).2
    rwa [lkN_ne (hne b hb)] at this
/-- no exception comes out -/
def noExc : Flow → Flow
  | .exc _ _ => .bad
  | r => r
theorem noExc_post {D : Ends} {r : Flow} (h : PostF K C B D (noExc r)) : PostF K C B D r := by
  cases r with
  | exc q e => exact h.elim
  | _ => exact h
theorem post_lk {C : Cn} {D : Ends} {M0 : Hp} {r : Flow} (h0 : M0 a = some (.dK us)) (hm : AtD a us B.m) (hh : AtD a us B.h) (lo : Sub B.l M0) (h : PostF K C B D (noExc r)) : PostF K C (lkB a od us B (upd M0 a (.frz od (.dK us)))) (lkD a od (.dK us) D) r := by
  cases r with
  | next e =>
    intro M H σ fs S
    obtain ⟨p, q⟩ := SR.unlockS h0 hm hh lo S
    exact ⟨p, h _ _ _ _ q⟩
  | brk e =>
    intro M H σ fs S
    obtain ⟨p, q⟩ := SR.unlockS h0 hm hh lo S
    exact ⟨p, h _ _ _ _ q⟩
  | cont e =>
    intro M H σ fs S
    obtain ⟨p, q⟩ := SR.unlockS h0 hm hh lo S
    exact ⟨p, h _ _ _ _ q⟩
  | ret x e =>
    intro M N H v σ fs S em kn gr rv
    obtain ⟨p, q⟩ := SR.unlockS h0 hm hh lo S
    have hM : M a = some (.frz od (.dK us)) := S.lo _ _ upd_same
    have hN : N a = some (.frz od (.dK us)) := em _ _ hM
    refine ⟨gr.nh _ _ hN, h (upd M a (.dK us)) (upd N a (.dK us)) (upd H a (.dK us)) v σ fs ?_ (fun b o hb => ?_) (fun b hb => ?_) (gr_ul hN hm hh gr) (RV.unl (Unl.upd hN) _ rv)⟩
    · exact q
    · by_cases hz : b = a
      · subst hz; rw [upd_same] at hb ⊢; exact hb
      · rw [upd_ne hz] at hb ⊢; exact em b o hb
    · have hz : b ≠ a := fun z => by
        subst z
        have := (q.fr b hb).1
        rw [upd_same] at this
        cases this
      rw [upd_ne hz]
      exact kn b hb
  | exc z e => exact h.elim
  | bad => exact h.elim
/-- slot j's dict is locked -/
def LkAt (K : PySem.W.Frag) (N : Hp) (σ : L2.St) (env : Env) (j : Nat) : Prop := ∃ a vs od xs, σ[j]? = some (some (.ref a)) ∧ env[j]? = some (.sh (.dct xs)) ∧ RKs K N vs xs ∧ N a = some (.frz od (.dK vs))
def tOr (t1 t2 : TS) : TS := fun D σ H => t1 D σ H ∨ t2 D σ H
def sLockS (j : Nat) (m : ST) : ST := fun env => match env[j]? with
  | some (.sh (.dct _)) => noExc (m env)
  | _ => .bad
theorem SR.shAt (S : SR K B M H σ env fs) {j : Nat} {x : Val} (hx : env[j]? = some (.sh x)) : ∃ v, σ[j]? = some (some v) ∧ RV K M v x := by
  obtain ⟨s0, f1, f, f2, h1, h2, h3, h4⟩ := S.sl.at hx
  cases h3 with
  | sh r => exact ⟨_, h1, r⟩
theorem es_lockS {C : Cn} {j : Nat} {t : TS} {m : ST} (h0 : ∀ B M H σ env fs, SR K B M H σ env fs → LkAt K M σ env j → ∀ D, PostF K C B D (m env) → t D σ H) : EvS K C (tOr (tLock t) t) (sLockS j m) := fun B M H σ env fs S D h => by
  unfold sLockS at h
  split at h
  · rename_i xs hx
    obtain ⟨v, hv, rv⟩ := S.shAt hx
    cases rv with
    | @dct a vs _ hd r =>
      rcases hd with hM | ⟨od, hM⟩
      · refine .inl ⟨a, .dK vs, S.g.nh _ _ hM, trivial, fun od => ?_⟩
        have S1 := S.lockS (od := od) hM
        refine h0 _ _ _ σ env fs S1 ⟨a, vs, od, xs, hv, hx, ?_, upd_same⟩ _ (post_lk hM (AtD.of hM S.g.nn) (AtD.of (S.g.nh _ _ hM) S.g.hh) S.lo h)
        exact RKs.lok ⟨fun b o hb q => by rw [upd_ne hb]; exact q, hM, upd_same⟩ _ r
      · exact .inr (h0 B M H σ env fs S ⟨a, vs, od, xs, hv, hx, r, hM⟩ D (noExc_post h))
  · exact h.elim
def itK (j : Nat) : EI := fun env => match env[j]? with
  | some (.sh (.dct xs)) => .ok (xs.map fun kv => keyVal kv.1)
  | _ => .bad
theorem hide_sh {j : Nat} {x : Val} (h : env[j]? = some (.sh x)) : (hide env)[j]? = some (.sh x) := by
  unfold hide
  rw [List.getElem?_map, h]
  rfl
theorem it_lk {C : Cn} {j : Nat} {N : Hp} (e : Sub N H) (L : LkAt K N σ env j) {R : It → Hp → Prop} (h : PostR C σ N H (itK j env) (fun xs N' H' => ∀ J, WalkV K N' J xs → R J H')) : iKeys (tVar j) σ H R := by
  obtain ⟨a, vs, od, xs, h1, h2, r, hN⟩ := L
  unfold itK at h
  rw [h2] at h
  exact ⟨.ref a, h1, a, od, rfl, .inl ⟨vs, e _ _ hN, h N H (Gr.refl e) _ (walkV_keys hN r)⟩⟩
theorem es_forS {C : Cn} {j : Nat} {g : TG} {put : Put} {is : List Nat} {t : TS} {m : ST} (hp : EvP K g put is) (h1 : EvS K C t m) : EvS K C (tOr (tLock (tFor (iKeys (tVar j)) g t)) (tFor (iKeys (tVar j)) g t)) (sLockS j (sFor (itK j) put m)) :=
  es_lockS fun B M H σ env fs S L D h => by
    obtain ⟨a, vs, od, xs, k1, k2, r, hM⟩ := L
    have hi : itK j (hide env) = .ok (xs.map fun kv => keyVal kv.1) := by unfold itK; rw [hide_sh k2]
    unfold sFor at h
    rw [hi] at h
    have W := es_walk (D := D) hp h1 (S.at_low (Same.refl _)) (show PostF K C { B with l := M } D (forL put m (xs.map fun kv => keyVal kv.1) env) from by
      have h : PostF K C B D (forL put m (xs.map fun kv => keyVal kv.1) env) := h
      cases hr : forL put m (xs.map fun kv => keyVal kv.1) env with
      | next e => rw [hr] at h; exact fun M' H' σ' fs' S' => h _ _ _ _ (SR.of_low S.lo S')
      | brk e => rw [hr] at h; exact fun M' H' σ' fs' S' => h _ _ _ _ (SR.of_low S.lo S')
      | cont e => rw [hr] at h; exact fun M' H' σ' fs' S' => h _ _ _ _ (SR.of_low S.lo S')
      | ret x e => rw [hr] at h; exact fun M' N' H' v σ' fs' S' => h _ _ _ _ _ _ (SR.of_low S.lo S')
      | exc q e =>
        rw [hr] at h
        obtain ⟨w, h1, h2⟩ := h
        exact ⟨w, h1, fun cls d M' H' σ' fs' S' => h2 _ _ _ _ _ _ (SR.of_low S.lo S')⟩
      | bad => rw [hr] at h; exact h.elim) (walkV_keys hM r)
    exact ⟨.ref a, k1, a, od, rfl, .inl ⟨vs, S.g.nh _ _ hM, W⟩⟩
theorem LkAt.hide {N : Hp} {j : Nat} (L : LkAt K N σ env j) : LkAt K N σ (hide env) j := by
  obtain ⟨a, vs, od, xs, h1, h2, r, hN⟩ := L
  exact ⟨a, vs, od, xs, h1, hide_sh h2, r, hN⟩
theorem es_ownLcS {C : Cn} {i j : Nat} {g : TG} {put : Put} {is own : List Nat} {tt : TT} {te : TE} {mt : EB} {me : EX} (hp : EvP K g put is) (hsub : ∀ i ∈ is, i ∈ own) (ht : EvB K (C0 C) tt mt) (he : EvE K (C0 C) te me) :
    EvS K C (tOr (tLock (tAsg (tLc (iKeys (tVar j)) g tt te own) (gName i))) (tAsg (tLc (iKeys (tVar j)) g tt te own) (gName i))) (sLockS j (sOwn i (eComp (itK j) own put mt me))) :=
  es_lockS fun B M H σ env fs S L D h => by
    refine ef_comp_at (N := M) (env := hide env) (fun R hr => it_lk S.g.nh L.hide hr) hp hsub ht he S.g.nh S.sl.hid _ (post_hid S h fun x M' H' _ g S' hx => ?_)
    cases x with
    | lst xs =>
      obtain ⟨hi, hx⟩ := PostF.ite hx
      refine ⟨xs, rfl, fun p vs hp rvs => ?_⟩
      obtain ⟨fs', S2⟩ := S'.own hi hp rvs
      exact hx M' _ _ fs' S2
    | _ => exact hx.elim
theorem es_setLcS {C : Cn} {i j : Nat} {g : TG} {put : Put} {is own : List Nat} {tt : TT} {te : TE} {mt : EB} {me : EX} (hp : EvP K g put is) (hsub : ∀ i ∈ is, i ∈ own) (ht : EvB K (C0 C) tt mt) (he : EvE K (C0 C) te me) :
    EvS K C (tOr (tLock (tAsg (tLc (iKeys (tVar j)) g tt te own) (gName i))) (tAsg (tLc (iKeys (tVar j)) g tt te own) (gName i))) (sLockS j (sSeq (sOwn i (eComp (itK j) own put mt me)) (sFreeze i))) :=
  es_lockS fun B M H σ env fs S L D h => by
    have h : PostF K C B D ((sOwn i (eComp (itK j) own put mt me) env).bind (sFreeze i)) := h
    have h : PostF K C B D ((eComp (itK j) own put mt me (hide env)).flow env fun x => match x with
      | .lst xs => if i < env.length then .next ((env.set i (.oL xs)).set i (.sh (.lst xs))) else .bad
      | _ => .bad) := by
      unfold sOwn at h
      cases hq : eComp (itK j) own put mt me (hide env) with
      | bad => rw [hq] at h; exact h.elim
      | exc q => rw [hq] at h; exact h
      | ok x =>
        rw [hq] at h
        cases x with
        | lst xs =>
          simp only [Res.flow_ok] at h ⊢
          by_cases hi : i < env.length
          · rw [if_pos hi] at h ⊢
            have h : PostF K C B D (sFreeze i (env.set i (.oL xs))) := h
            unfold sFreeze at h
            rw [List.getElem?_set_self hi] at h
            exact h
          · rw [if_neg hi] at h; exact h.elim
        | _ => exact h.elim
    refine ef_comp_at (N := M) (env := hide env) (fun R hr => it_lk S.g.nh L.hide hr) hp hsub ht he S.g.nh S.sl.hid _ (post_hid S h fun x M' H' _ g S' hx => ?_)
    cases x with
    | lst xs =>
      obtain ⟨hi, hx⟩ := PostF.ite hx
      refine ⟨xs, rfl, fun p vs hp rvs => ?_⟩
      obtain ⟨fs', S2⟩ := S'.own hi hp rvs
      obtain ⟨M2, fs2, S3⟩ := S2.freeze (i := i) (List.getElem?_set_self hi)
      exact hx M2 _ _ fs2 S3
    | _ => exact hx.elim
end
section
variable {X : Cx} {C : Cn} {a b c : Expr} {ta tb tc tk tp : TE} {ma mb mc k m : EX} {pos p pos' : Pos}
theorem ps_or {st : Stmt} {t1 t2 : TS} (h1 : PS X st t1) (h2 : PS X st t2) : PS X st (tOr t1 t2) := ⟨fun pins s σ H D I h => h.elim (h1.run pins s σ H D I) (h2.run pins s σ H D I)⟩
/-- for k in d, d shared -/
theorem ss_forS {y : Str} {tg : Expr} {g : TG} {put : Put} {is : List Nat} {as : List Stmt} {t : TS} {m : ST} (j : Nat) (F : Fr X C) (hp : STg X tg g put is) (ha : SSs X C as t m)
    (hj : X.N[j]? = some y := by rfl) (hv : Vis X.env.scope y := by first | exact Or.inl rfl | exact Or.inr (Or.inl rfl) | exact Or.inr (Or.inr rfl)) (hd : (y == ("__debug__" : Str)) = false := by decide) (hcd : (y == ("__classdict__" : Str)) = false := by decide)
    (hs : ∀ x, foldedSetIterable (.Name y p) X.env x = pure x := by intro _; rfl) : SSt X C (.For tg (.Name y p) as [] pos) (tOr (tLock (tFor (iKeys (tVar j)) g t)) (tFor (iKeys (tVar j)) g t)) (sLockS j (sFor (itK j) put m)) :=
  ⟨ps_or (ps_lock (ps_for F.ow F.ca (pi_keys (pv j hj hv hd hcd)) hp.pe ha.ps hs)) (ps_for F.ow F.ca (pi_keys (pv j hj hv hd hcd)) hp.pe ha.ps hs), es_forS hp.ev ha.ev⟩
/-- x = [e for k in d ..], d shared; x changes from there on -/
theorem ss_ownLcS {x y : Str} {p2 spos : Pos} {tt : TT} {mt : EB} {elt tg : Expr} {ifs : List Expr} {scope : Scope} {own : List (Str × Nat)} {g : TG} {put : Put} {is : List Nat} {te : TE} {me : EX} (i j : Nat) (F : Fr X C) (hp : inBlk X scope fun Y => STg Y tg g put is) (ht : inBlk X scope fun Y => STt Y (C0 C) ifs tt mt)
    (he : inBlk X scope fun Y => SE Y (C0 C) elt te me) (hsub : ∀ i ∈ is, i ∈ own.map (·.2) := by decide) (hN : X.N.Nodup := by assumption) (ok : BlkOk X.N X.env.scope scope own := by exact blkOk_by (by rfl)) (hs : ∀ x, foldedSetIterable (.Name y p2) X.env x = pure x := by intro _; rfl)
    (hj : X.N[j]? = some y := by rfl) (hv : Vis X.env.scope y := by first | exact Or.inl rfl | exact Or.inr (Or.inl rfl) | exact Or.inr (Or.inr rfl)) (hd : (y == ("__debug__" : Str)) = false := by decide) (hcd : (y == ("__classdict__" : Str)) = false := by decide)
    (hsw : swapsWith (.ListComp elt [⟨tg, .Name y p2, ifs, 0⟩] scope pos) (some (.Name x p)) spos.line X.env = pure true := by exact sw_true rfl rfl rfl (by decide +kernel)) (hi : X.N[i]? = some x := by rfl) (hx : X.env.scope.names.lookup x = some .local := by rfl) :
    SSt X C (.Assign [.Name x p] (.ListComp elt [⟨tg, .Name y p2, ifs, 0⟩] scope pos) spos) (tOr (tLock (tAsg (tLc (iKeys (tVar j)) g tt te (own.map (·.2))) (gName i))) (tAsg (tLc (iKeys (tVar j)) g tt te (own.map (·.2))) (gName i))) (sLockS j (sOwn i (eComp (itK j) (own.map (·.2)) put mt me))) := by
  have h := ps_setLc F.ca hN hi hx hsw (pi_keys (pv j hj hv hd hcd)) ok (fun s H Cc cl fp => (hp s H Cc cl fp).pe) (fun s H Cc cl fp => (ht s H Cc cl fp).pe) (fun s H Cc cl fp => (he s H Cc cl fp).pe) hs
  exact ⟨ps_or (ps_lock h) h, es_ownLcS (hp X.s_0 X.H_0 0 [] []).ev hsub (ht X.s_0 X.H_0 0 [] []).ev (he X.s_0 X.H_0 0 [] []).ev⟩
/-- x = [e for k in d ..], d shared -/
theorem ss_setLcS {x y : Str} {p2 spos : Pos} {tt : TT} {mt : EB} {elt tg : Expr} {ifs : List Expr} {scope : Scope} {own : List (Str × Nat)} {g : TG} {put : Put} {is : List Nat} {te : TE} {me : EX} (i j : Nat) (F : Fr X C) (hp : inBlk X scope fun Y => STg Y tg g put is) (ht : inBlk X scope fun Y => STt Y (C0 C) ifs tt mt)
    (he : inBlk X scope fun Y => SE Y (C0 C) elt te me) (hsub : ∀ i ∈ is, i ∈ own.map (·.2) := by decide) (hN : X.N.Nodup := by assumption) (ok : BlkOk X.N X.env.scope scope own := by exact blkOk_by (by rfl)) (hs : ∀ x, foldedSetIterable (.Name y p2) X.env x = pure x := by intro _; rfl)
    (hj : X.N[j]? = some y := by rfl) (hv : Vis X.env.scope y := by first | exact Or.inl rfl | exact Or.inr (Or.inl rfl) | exact Or.inr (Or.inr rfl)) (hd : (y == ("__debug__" : Str)) = false := by decide) (hcd : (y == ("__classdict__" : Str)) = false := by decide)
    (hsw : swapsWith (.ListComp elt [⟨tg, .Name y p2, ifs, 0⟩] scope pos) (some (.Name x p)) spos.line X.env = pure true := by exact sw_true rfl rfl rfl (by decide +kernel)) (hi : X.N[i]? = some x := by rfl) (hx : X.env.scope.names.lookup x = some .local := by rfl) :
    SSt X C (.Assign [.Name x p] (.ListComp elt [⟨tg, .Name y p2, ifs, 0⟩] scope pos) spos) (tOr (tLock (tAsg (tLc (iKeys (tVar j)) g tt te (own.map (·.2))) (gName i))) (tAsg (tLc (iKeys (tVar j)) g tt te (own.map (·.2))) (gName i))) (sLockS j (sSeq (sOwn i (eComp (itK j) (own.map (·.2)) put mt me)) (sFreeze i))) := by
  have h := ps_setLc F.ca hN hi hx hsw (pi_keys (pv j hj hv hd hcd)) ok (fun s H Cc cl fp => (hp s H Cc cl fp).pe) (fun s H Cc cl fp => (ht s H Cc cl fp).pe) (fun s H Cc cl fp => (he s H Cc cl fp).pe) hs
  exact ⟨ps_or (ps_lock h) h, es_setLcS (hp X.s_0 X.H_0 0 [] []).ev hsub (ht X.s_0 X.H_0 0 [] []).ev (he X.s_0 X.H_0 0 [] []).ev⟩
/-! list(d) -/
def vListOfD : List Val → Res Val
  | [.dct xs] => .ok (.lst (xs.map fun kv => keyVal kv.1))
  | _ => .bad
def rListKD : List V → Hp → VK → Prop := fun xs H Q => ∃ (a : Addr) (kvs : List (L2.Key × V)), xs = [.ref a] ∧ Rd H a (.dK kvs) ∧ ∀ p, H p = none → Q (.ref p) (upd H p (.lst (kvs.map fun kv => kV kv.1)))
end
section
variable {K : PySem.W.Frag}
theorem rks_keys {N : Hp} : ∀ {vs : List (L2.Key × V)} {xs : List (Key × Val)}, RKs K N vs xs → RVs K N (vs.map fun kv => kV kv.1) (xs.map fun kv => keyVal kv.1)
  | _, _, .nil => .nil
  | _, _, .cons _ r => .cons (RV.key _) (rks_keys r)
theorem ef_listOfD {C : Cn} {t : TA} {m : EL} (ha : EvA K C t m) : EvF K C (tCB rListKD t) (eArgs vListOfD m) := fun N H σ env e s Q h => by
  refine ha N H σ env e s _ (PostR.imp (PostR.bind h) fun xs N1 H1 g1 h1 vs rs => ?_)
  unfold vListOfD at h1
  split at h1
  · obtain ⟨v, rfl, rv⟩ := vals1r rs
    cases rv with
    | dct hs r =>
      obtain ⟨ys, e1, h2⟩ := h1 N1 H1 (Gr.refl g1.nh)
      cases e1
      refine ⟨_, _, rfl, ?_, fun l hl => h2 l _ hl (rks_keys r)⟩
      rcases hs with hs | ⟨o, hs⟩
      · exact .inl (g1.nh _ _ hs)
      · exact .inr ⟨o, g1.nh _ _ hs⟩
  · exact h1.elim
end
section
variable {X : Cx} {C : Cn} {a : Expr} {es : List Expr} {t : TA} {m : EL} {pos p : Pos}
theorem listOfD_lst (env : Env) (x : Val) (h : eArgs vListOfD m env = .ok x) : ∃ xs, x = .lst xs := by
  unfold eArgs at h
  cases hm : m env with
  | ok ys =>
    rw [hm] at h
    simp only [Res.bind_ok] at h
    unfold vListOfD at h
    split at h
    · cases h; exact ⟨_, rfl⟩
    · cases h
  | exc q => rw [hm] at h; cases h
  | bad => rw [hm] at h; cases h
theorem sf_listOfD (F : Fr X C) (hm : X.mg ("list" : Str) = none) (h : SA X C (a :: es) t m) (hg : Gl X ("list" : Str) := by rfl) (he : starEach (a :: es) X.env = (false, eval a X.env) :: starEach es X.env := by rfl) (hpl : (backTo pos (starEach es X.env)).any (·.1) = false := by rfl) :
    SF X C (.Call (.Name "list" p) (a :: es) [] pos) (tCB rListKD t) (eArgs vListOfD m) := ⟨pe_callTy (call_listD F.ca) hg hm PySem.Pv.boot_list h.pe (by decide) (by decide) he hpl, ef_listOfD h.ev⟩
theorem se_listOfD (F : Fr X C) (hm : X.mg ("list" : Str) = none) (h : SA X C (a :: es) t m) (hg : Gl X ("list" : Str) := by rfl) (he : starEach (a :: es) X.env = (false, eval a X.env) :: starEach es X.env := by rfl) (hpl : (backTo pos (starEach es X.env)).any (·.1) = false := by rfl) :
    SE X C (.Call (.Name "list" p) (a :: es) [] pos) (tCB rListKD t) (eArgs vListOfD m) := ⟨(sf_listOfD (C := C) F hm h hg he hpl).pe, EvF.e listOfD_lst (sf_listOfD (C := C) (p := p) (pos := pos) F hm h hg he hpl).ev⟩
end
end Vm

/-! xs[::-1], dict(d), dict displays that a slot owns. -/
namespace Vm
open PySem L2 PyProof.Rows
def eRev (a : EX) : EX := fun env => (a env).bind fun
  | .lst xs => .ok (.lst xs.reverse)
  | _ => .bad
def vDictOf : List Val → Res Val
  | [.dct xs] => .ok (.dct xs)
  | _ => .bad
def rDictKD : List V → Hp → VK → Prop := fun xs H Q => ∃ (a : Addr) (kvs : List (L2.Key × V)), xs = [.ref a] ∧ Rd H a (.dK kvs) ∧ ∀ p, H p = none → Q (.ref p) (upd H p (.dK kvs))
section
variable {K : PySem.W.Frag}
theorem RVs.snoc {N : Hp} : ∀ {vs ws : List V} {xs ys : List Val}, RVs K N vs xs → RVs K N ws ys → RVs K N (vs ++ ws) (xs ++ ys)
  | _, _, _, _, .nil, s => s
  | _, _, _, _, .cons h r, s => .cons h (RVs.snoc r s)
theorem RVs.rev {N : Hp} : ∀ {vs : List V} {xs : List Val}, RVs K N vs xs → RVs K N vs.reverse xs.reverse
  | _, _, .nil => .nil
  | _, _, .cons h r => by
    rw [List.reverse_cons, List.reverse_cons]
    exact RVs.snoc (RVs.rev r) (.cons h .nil)
theorem ef_rev {C : Cn} {ta : TE} {ma : EX} (ha : EvE K C ta ma) : EvF K C (tRevL K ta) (eRev ma) := fun N H σ env e s Q h => by
  refine ha N H σ env e s _ (PostR.imp (PostR.bind h) fun x N1 H1 g1 h1 v rv => ?_)
  cases x with
  | lst xs =>
    cases rv with
    | lst hs r =>
      obtain ⟨ys, e1, h2⟩ := h1 N1 H1 (Gr.refl g1.nh)
      cases e1
      exact ⟨_, _, rfl, sq_mono g1.nh hs, fun p hp => h2 p _ hp r.rev⟩
  | _ => exact h1.elim
theorem rev_lst {ma : EX} (env : Env) (x : Val) (h : eRev ma env = .ok x) : ∃ xs, x = .lst xs := by
  unfold eRev at h
  cases hm : ma env with
  | ok y =>
    rw [hm] at h
    cases y with
    | lst ys => cases h; exact ⟨_, rfl⟩
    | _ => cases h
  | exc q => rw [hm] at h; cases h
  | bad => rw [hm] at h; cases h
theorem efd_dictOf {C : Cn} {t : TA} {m : EL} (ha : EvA K C t m) : EvFD K C (tCB rDictKD t) (eArgs vDictOf m) := fun N H σ env e s Q h => by
  refine ha N H σ env e s _ (PostR.imp (PostR.bind h) fun xs N1 H1 g1 h1 vs rs => ?_)
  unfold vDictOf at h1
  split at h1
  · obtain ⟨v, rfl, rv⟩ := vals1r rs
    cases rv with
    | dct hs r =>
      obtain ⟨ys, e1, h2⟩ := h1 N1 H1 (Gr.refl g1.nh)
      cases e1
      refine ⟨_, _, rfl, ?_, fun l hl => h2 l _ hl r⟩
      rcases hs with hs | ⟨o, hs⟩
      · exact .inl (g1.nh _ _ hs)
      · exact .inr ⟨o, g1.nh _ _ hs⟩
  · exact h1.elim
theorem EvFD.e {C : Cn} {te : TE} {m : EX} (hd : ∀ env x, m env = .ok x → ∃ xs, x = .dct xs) (h : EvFD K C te m) : EvE K C te m := fun N H σ env e s Q hp => by
  refine h N H σ env e s Q ?_
  cases hm : m env with
  | bad => rw [hm] at hp; exact hp.elim
  | exc q => rw [hm] at hp; exact hp
  | ok x =>
    rw [hm] at hp
    obtain ⟨xs, rfl⟩ := hd env x hm
    intro N' H' g
    refine ⟨xs, rfl, fun p vs hf r => ?_⟩
    have g2 := g.trans (Gr.new g.nh hf (o := .dK vs))
    exact hp _ _ g2 _ (.dct (.inl upd_same) (RKs.mono (fun a o q => by
      have hn : N' p = none := by
        cases hz : N' p with
        | none => rfl
        | some o' => have := g.nh p o' hz; rw [hf] at this; cases this
      rw [upd_ne (ne_of_none q hn)]; exact q) _ r))
theorem dictOf_dct {m : EL} (env : Env) (x : Val) (h : eArgs vDictOf m env = .ok x) : ∃ xs, x = .dct xs := by
  unfold eArgs at h
  cases hm : m env with
  | ok ys =>
    rw [hm] at h
    simp only [Res.bind_ok] at h
    unfold vDictOf at h
    split at h
    · cases h; exact ⟨_, rfl⟩
    · cases h
  | exc q => rw [hm] at h; cases h
  | bad => rw [hm] at h; cases h
theorem efd_dictV {C : Cn} {trs : List (TE × TE)} {m : Env → Res (List (Key × Val))} (hp : EvPrV K C trs m) : EvFD K C (tDisp trs) (fun env => (m env).bind fun kvs => if kvs.length ≤ 15 then .ok (.dct (mergeV [] kvs)) else .bad) := fun N H σ env e s Q h p hpn => by
  have hNp : N p = none := by
    cases hq : N p with
    | none => rfl
    | some o => have := e p o hq; rw [hpn] at this; cases this
  have e1 : Sub N (upd H p (.dK [])) := fun a o q => by rw [upd_ne (ne_of_none q hNp)]; exact e a o q
  have g0 : Gr N H N (upd H p (.dK [])) := ⟨fun a o q => by rw [upd_ne (ne_of_none q hpn)]; exact q, fun a o q => q, e1, fun a q => .inl q⟩
  have h : PostR C σ N H ((m env).bind fun kvs => if kvs.length ≤ 15 then Res.ok (Val.dct (mergeV [] kvs)) else .bad) (fun x N' H' => ∃ xs, x = Val.dct xs ∧ ∀ p vs, H' p = none → RKs K N' vs xs → Q (.ref p) (upd H' p (.dK vs))) := h
  cases hd : m env with
  | bad => rw [hd] at h; exact h.elim
  | exc q =>
    rw [hd] at h
    exact hp N _ σ env e1 s _ (by rw [hd]; exact ExcP.step g0 h)
  | ok xs =>
    rw [hd] at h
    refine hp N _ σ env e1 s _ ?_
    rw [hd]
    intro N2 H2 g2 vs rvs
    have h : PostR C σ N H (if xs.length ≤ 15 then Res.ok (Val.dct (mergeV [] xs)) else .bad) (fun x N' H' => ∃ xs, x = Val.dct xs ∧ ∀ p vs, H' p = none → RKs K N' vs xs → Q (.ref p) (upd H' p (.dK vs))) := h
    split at h
    · rename_i hl
      have hH2 : H2 p = some (.dK []) := g2.hh p _ upd_same
      have hN2 : N2 p = none := by
        cases hq : N2 p with
        | none => rfl
        | some o =>
          rcases g2.nw p (by rw [hq]; simp) with h3 | h3
          · exact absurd hNp h3
          · rw [upd_same] at h3; cases h3
      refine ⟨hH2, vs, rfl, by rw [rvs.length]; exact hl, ?_⟩
      let H3 : Hp := fun a => if a = p then none else H2 a
      have g3 : Gr N H N2 H3 := by
        refine ⟨fun a o q => ?_, g2.nn, fun a o q => ?_, fun a q => ?_⟩
        · show (if a = p then none else H2 a) = some o
          rw [if_neg (ne_of_none q hpn)]
          exact g2.hh a o (by rw [upd_ne (ne_of_none q hpn)]; exact q)
        · show (if a = p then none else H2 a) = some o
          rw [if_neg (ne_of_none q hN2)]
          exact g2.nh a o q
        · by_cases hap : a = p
          · subst hap; exact .inr hpn
          · rcases g2.nw a q with h3 | h3
            · exact .inl h3
            · rw [upd_ne hap] at h3; exact .inr h3
      obtain ⟨ys, e2, k⟩ := h N2 H3 g3
      cases e2
      have := k p _ (by show (if p = p then none else H2 p) = none; rw [if_pos rfl]) (RKs.merge rvs .nil)
      have e3 : upd H3 p (.dK (mergeK [] vs)) = upd H2 p (.dK (mergeK [] vs)) := by
        funext a
        by_cases hap : a = p
        · subst hap; rw [upd_same, upd_same]
        · rw [upd_ne hap, upd_ne hap]; show (if a = p then none else H2 a) = _; rw [if_neg hap]
      rw [e3] at this
      exact this
    · exact h.elim
end
section
variable {X : Cx} {C : Cn} {a b c : Expr} {ta tb tc tk tp : TE} {ma mb mc k m : EX} {pos p pos' : Pos} {es : List Expr} {t : TA} {ml : EL}
theorem sf_rev {kk : Nat} {p1 p2 p3 : Pos} (ha : SE X C a ta ma) : SF X C (.Subscript a (.Slice none none (some (.UnaryOp .USub (.Constant (.int 1) kk p1) p2)) p3) pos) (tRevL X.K ta) (eRev ma) := ⟨pe_revL ha.pe, ef_rev ha.ev⟩
theorem se_rev {kk : Nat} {p1 p2 p3 : Pos} (ha : SE X C a ta ma) : SE X C (.Subscript a (.Slice none none (some (.UnaryOp .USub (.Constant (.int 1) kk p1) p2)) p3) pos) (tRevL X.K ta) (eRev ma) := ⟨pe_revL ha.pe, EvF.e rev_lst (ef_rev ha.ev)⟩
structure SFD (X : Cx) (C : Cn) (e : Expr) (te : TE) (m : EX) : Prop where
  pe : PE X e te
  ev : EvFD X.K C te m
theorem sd_dictOf (hm : X.mg ("dict" : Str) = none) (h : SA X C (a :: es) t ml) (hg : Gl X ("dict" : Str) := by rfl) (he : starEach (a :: es) X.env = (false, eval a X.env) :: starEach es X.env := by rfl) (hpl : (backTo pos (starEach es X.env)).any (·.1) = false := by rfl) :
    SFD X C (.Call (.Name "dict" p) (a :: es) [] pos) (tCB rDictKD t) (eArgs vDictOf ml) := ⟨pe_callTy call_dictD hg hm PySem.Pv.boot_dict h.pe (by decide) (by decide) he hpl, efd_dictOf h.ev⟩
theorem se_dictOf (hm : X.mg ("dict" : Str) = none) (h : SA X C (a :: es) t ml) (hg : Gl X ("dict" : Str) := by rfl) (he : starEach (a :: es) X.env = (false, eval a X.env) :: starEach es X.env := by rfl) (hpl : (backTo pos (starEach es X.env)).any (·.1) = false := by rfl) :
    SE X C (.Call (.Name "dict" p) (a :: es) [] pos) (tCB rDictKD t) (eArgs vDictOf ml) := ⟨(sd_dictOf (C := C) hm h hg he hpl).pe, EvFD.e dictOf_dct (sd_dictOf (C := C) (p := p) (pos := pos) hm h hg he hpl).ev⟩
theorem sd_dictV {keys : List (Option Expr)} {values : List Expr} {trs : List (TE × TE)} {ps : List (EX × EX)} (h : SPrV X C pos keys values trs ps) (hall : keys.all (·.isSome) = true := by rfl) (hl : keys.length = values.length := by rfl) (h0 : keys ≠ [] := by intro h; cases h) (h15 : keys.length ≤ 15 := by decide) :
    SFD X C (.Dict keys values pos) (tDisp trs) (eDictV ps) := ⟨pe_disp h.pe hall hl h0 h15, efd_dictV h.ev⟩
/-- x = a new dict, which changes from there on -/
theorem ss_ownD (i : Nat) {x : Str} (ha : SFD X C a ta ma) (hs : swapsWith a (some (.Name x p)) pos.line X.env = pure false := by rfl) (hN : X.N.Nodup := by assumption) (hi : X.N[i]? = some x := by rfl) (hx : Loc X.env.scope x := by first | exact .inl rfl | exact .inr rfl)
    (hf : X.fn x = true ∨ X.env.scope.names.lookup x = some .local := by first | exact .inr rfl | exact .inl rfl) : SSt X C (.Assign [.Name x p] a pos) (tAsg ta (gName i)) (sOwnD i ma) := ss_asg i ha.pe (es_ownD ha.ev) hs hN hi hx hf
end
/-! == of two dicts, equal ones -/
def sameFlat : Val → Val → Bool
  | .non, .non => true
  | .bl a, .bl b => a == b
  | .int a, .int b => a == b
  | .str a, .str b => a == b
  | _, _ => false
def eqDct : Val → Val → Bool
  | .dct ks, .dct ls => ks.length == ls.length && ks.all fun p => match getV ls p.1 with
    | some y => sameFlat p.2 y
    | none => false
  | _, _ => false
def vEqD (x y : Val) : Res Val := if eqDct x y = true then .ok (.bl true) else .bad
def vNeD (x y : Val) : Res Val := if eqDct x y = true then .ok (.bl false) else .bad
def rDctR (r : Bool) : R2 := fun x y H Q => ∃ a b ks ls, x = .ref a ∧ y = .ref b ∧ Rd H a (.dK ks) ∧ Rd H b (.dK ls) ∧ ks.length = ls.length ∧ (∀ p ∈ ks, valV ls p.1 = some p.2 ∧ flatB p.2 = true) ∧ Q (.bl r) H
theorem op_eqDR {X : Cx} (hu : X.A.units < cLine) : OpR X (compareOp .Eq) (rDctR true) := by
  intro pins s σ H x y v u Q I rx ry h
  obtain ⟨a, b, ks, ls, rfl, rfl, ea, eb, hlen, hp, q⟩ := h
  obtain rfl : v = Value.ref a := rx
  obtain rfl : u = Value.ref b := ry
  obtain ⟨_, ya, va, ra, da⟩ := dk_rd I.hok ea
  obtain ⟨_, yb, vb, rb, db⟩ := dk_rd I.hok eb
  have hl : va.length = vb.length := by rw [← ra.length, ← rb.length]; exact hlen
  exact PySem.W.keq_eq (knd := mixKind X.prog X.w) (r := true) ya yb da db hu (fun _ => hits_all rb ra hp) (fin_bl I q (by simp [hl]))
theorem op_neDR {X : Cx} (hu : X.A.units < cLine) : OpR X (compareOp .NotEq) (rDctR false) := by
  intro pins s σ H x y v u Q I rx ry h
  obtain ⟨a, b, ks, ls, rfl, rfl, ea, eb, hlen, hp, q⟩ := h
  obtain rfl : v = Value.ref a := rx
  obtain rfl : u = Value.ref b := ry
  obtain ⟨_, ya, va, ra, da⟩ := dk_rd I.hok ea
  obtain ⟨_, yb, vb, rb, db⟩ := dk_rd I.hok eb
  have hl : va.length = vb.length := by rw [← ra.length, ← rb.length]; exact hlen
  exact PySem.W.keq_ne (knd := mixKind X.prog X.w) (r := true) ya yb da db hu (fun _ => hits_all rb ra hp) (fin_bl I q (by simp [hl]))
section
variable {K : PySem.W.Frag}
theorem sameFlat_rv {N : Hp} {x y : Val} {v w : V} (h : sameFlat x y = true) (rx : RV K N v x) (ry : RV K N w y) : w = v ∧ flatB v = true := by
  unfold sameFlat at h
  split at h
  · cases rx; cases ry; exact ⟨rfl, rfl⟩
  · cases rx; cases ry; rw [beq_iff_eq.mp h]; exact ⟨rfl, rfl⟩
  · cases rx; cases ry; rw [beq_iff_eq.mp h]; exact ⟨rfl, rfl⟩
  · cases rx; cases ry; rw [beq_iff_eq.mp h]; exact ⟨rfl, rfl⟩
  · cases h
theorem all_rv {N : Hp} {ws : List (L2.Key × V)} {ls : List (Key × Val)} (rb : RKs K N ws ls) : ∀ {vs : List (L2.Key × V)} {ks : List (Key × Val)}, RKs K N vs ks → (ks.all fun p => match getV ls p.1 with
    | some y => sameFlat p.2 y
    | none => false) = true → ∀ p ∈ vs, valV ws p.1 = some p.2 ∧ flatB p.2 = true
  | _, _, .nil, _, p, hp => by cases hp
  | _, _, .cons (k := k) (v := v) (x := x) hv r, h, p, hp => by
    rw [List.all_cons, Bool.and_eq_true] at h
    rcases List.mem_cons.mp hp with rfl | hp
    · have g := rb.get (k := k)
      have h0 : (match getV ls k with | some y => sameFlat x y | none => false) = true := h.1
      cases hg : getV ls k with
      | none => rw [hg] at h0; cases h0
      | some y =>
        rw [hg] at h0
        rw [hg] at g
        obtain ⟨w, g1, g2⟩ := g
        obtain ⟨e1, e2⟩ := sameFlat_rv h0 hv g2
        exact ⟨by rw [g1, e1], e2⟩
    · exact all_rv rb r h.2 p hp
theorem dct_ok {N H : Hp} (e : Sub N H) {v w : V} {x y : Val} (rx : RV K N v x) (ry : RV K N w y) (h : eqDct x y = true) {r : Bool} {Q : VK} (q : Q (.bl r) H) : rDctR r v w H Q := by
  unfold eqDct at h
  split at h
  · rename_i ks ls
    rw [Bool.and_eq_true, beq_iff_eq] at h
    obtain ⟨h1, h2⟩ := h
    cases rx with
    | @dct a vs _ ha ra =>
      cases ry with
      | @dct b ws _ hb rb =>
        have rd : ∀ {p : Addr} {us : List (L2.Key × V)}, SqD N p us → Rd H p (.dK us) := fun {p us} q => by
          rcases q with q | ⟨o, q⟩
          · exact .inl (e _ _ q)
          · exact .inr ⟨o, e _ _ q⟩
        refine ⟨a, b, vs, ws, rfl, rfl, rd ha, rd hb, by rw [ra.length, rb.length]; exact h1, ?_, q⟩
        exact all_rv rb ra h2
  · cases h
theorem ops_eqD : OpS K (rDctR true) vEqD := by
  intro N H e v w x y rx ry Q ⟨z, hz, k⟩
  unfold vEqD at hz
  obtain ⟨h, hz⟩ := ite_ok hz
  cases hz
  exact dct_ok e rx ry h (k N H (Gr.refl e) _ (.bl _))
theorem ops_neD : OpS K (rDctR false) vNeD := by
  intro N H e v w x y rx ry Q ⟨z, hz, k⟩
  unfold vNeD at hz
  obtain ⟨h, hz⟩ := ite_ok hz
  cases hz
  exact dct_ok e rx ry h (k N H (Gr.refl e) _ (.bl _))
theorem nx_eqD (x y : Val) : NX (vEqD x y) := by unfold vEqD; exact nx_ite nx_ok nx_bad
theorem nx_neD (x y : Val) : NX (vNeD x y) := by unfold vNeD; exact nx_ite nx_ok nx_bad
end
theorem c_eqD {X : Cx} {C : Cn} (F : Fr X C) : CmpS X .Eq (rDctR true) vEqD := ⟨op_eqDR (by have := F.hu; omega), ops_eqD, nx_eqD⟩
theorem c_neD {X : Cx} {C : Cn} (F : Fr X C) : CmpS X .NotEq (rDctR false) vNeD := ⟨op_neDR (by have := F.hu; omega), ops_neD, nx_neD⟩
end Vm

/-! [e, ..], each e a new tree. -/
namespace Vm
open PySem L2 PyProof.Rows
def seqT : List ET → Env → Res (List Tr)
  | [], _ => .ok []
  | m :: ms, env => (m env).bind fun t => (seqT ms env).bind fun ts => .ok (t :: ts)
def tLstT (ms : List ET) : ET := fun env => (seqT ms env).bind fun ts => .ok (.l ts)
section
variable {K : PySem.W.Frag} {C : Cn}
def EvTs (K : PySem.W.Frag) (C : Cn) (t : TA) (ms : List ET) : Prop := ∀ N H σ env, Sub N H → SV K N σ env → ∀ Q : List V → Hp → Prop, PostR C σ N H (seqT ms env) (fun ts N' H' => ∀ vs H'' f, Sub H' H'' → RTl K N' H'' vs ts f → f.Nodup → (∀ a ∈ f, H' a = none) → Q vs H'') → t σ H Q
theorem ets_nil : EvTs K C tNil [] := fun N H σ env e s Q h => h N H (Gr.refl e) [] H [] (Same.refl _) .nil .nil fun a ha => by cases ha
theorem ets_cons {ta : TE} {t : TA} {m : ET} {ms : List ET} (ha : EvT K C ta m) (hr : EvTs K C t ms) : EvTs K C (tCons ta t) (m :: ms) := fun N H σ env e s Q h => by
  refine ha N H σ env e s _ (PostR.imp (PostR.bind h) fun x N1 H1 g1 h1 v H2 f e2 rt nd fr => ?_)
  have g12 : Gr N1 H1 N1 H2 := ⟨e2, Same.refl _, g1.nh.trans e2, fun _ q => .inl q⟩
  refine hr N1 H2 σ env (g1.nh.trans e2) (s.mono g1.nn) _ ?_
  cases hm : seqT ms env with
  | bad => rw [hm] at h1; exact h1.elim
  | exc q => rw [hm] at h1; exact ExcP.step g12 h1
  | ok ts =>
    rw [hm] at h1
    intro N' H' g vs H'' f' e3 rl nd' fr'
    have known : ∀ a ∈ f, H2 a ≠ none := fun a ha => by obtain ⟨o, ho, _⟩ := RT.kinds x rt a ha; rw [ho]; simp
    classical
    let Hx : Hp := fun a => if a ∈ f then none else H' a
    have gx : Gr N1 H1 N' Hx := by
      refine ⟨fun a o q => ?_, g.nn, fun a o q => ?_, fun a q => ?_⟩
      · show (if a ∈ f then none else H' a) = some o
        rw [if_neg fun z => by rw [fr a z] at q; cases q]
        exact g.hh a o (e2 a o q)
      · show (if a ∈ f then none else H' a) = some o
        rw [if_neg fun z => ?_]
        · exact g.nh a o q
        · rcases g.nw a (by rw [q]; simp) with h3 | h3
          · cases hn : N1 a with
            | none => exact h3 hn
            | some o' => have := g1.nh a o' hn; rw [fr a z] at this; cases this
          · exact known a z h3
      · rcases g.nw a q with h3 | h3
        · exact .inl h3
        · exact .inr (e2.free h3)
    refine h1 N' Hx gx (v :: vs) H'' (f ++ f') (fun a o q => ?_) (.cons (RT.mono g.nn x (fun a ha => ?_) rt) rl) ?_ fun a ha => ?_
    · have q : (if a ∈ f then none else H' a) = some o := q
      split at q
      · cases q
      · exact e3 a o q
    · cases hq : H2 a with
      | none => exact absurd hq (known a ha)
      | some o => rw [e3 a o (g.hh a o hq)]
    · rw [List.nodup_append]
      refine ⟨nd, nd', fun a ha b hb z => ?_⟩
      subst z
      cases hq : H2 a with
      | none => exact known a ha hq
      | some o => have := g.hh a o hq; rw [fr' a hb] at this; cases this
    · show (if a ∈ f then none else H' a) = none
      rcases List.mem_append.mp ha with ha | ha
      · rw [if_pos ha]
      · split
        · rfl
        · exact fr' a ha
theorem RTl.known {M H : Hp} {ts : List Tr} {vs : List V} {f : List Addr} (h : RTl K M H vs ts f) : ∀ a ∈ f, H a ≠ none := fun a ha => by obtain ⟨o, ho, _⟩ := RTl.kinds ts h a ha; rw [ho]; simp
theorem seqT_len : ∀ {ms : List ET} {env : Env} {ts : List Tr}, seqT ms env = .ok ts → ts.length = ms.length
  | [], _, _, h => by cases h; rfl
  | m :: ms, env, ts, h => by
    unfold seqT at h
    cases h1 : m env with
    | bad => rw [h1] at h; cases h
    | exc q => rw [h1] at h; cases h
    | ok t =>
      rw [h1] at h
      simp only [Res.bind_ok] at h
      cases h2 : seqT ms env with
      | bad => rw [h2] at h; cases h
      | exc q => rw [h2] at h; cases h
      | ok us =>
        rw [h2] at h
        cases h
        exact congrArg (· + 1) (seqT_len h2)
theorem et_lstN {t : TA} {ms : List ET} (ha : EvTs K C t ms) (h15 : ms.length ≤ 100) : EvT K C (tLst t) (tLstT ms) := fun N H σ env e s Q h => by
  refine ha N H σ env e s _ ?_
  cases hm : seqT ms env with
  | bad => unfold tLstT at h; rw [hm] at h; exact h.elim
  | exc q => unfold tLstT at h; rw [hm] at h; exact h
  | ok ts =>
    have hlen := seqT_len hm
    unfold tLstT at h
    rw [hm] at h
    intro N' H' g vs H2 f e2 rl nd fr
    refine ⟨by rw [RTl.length rl, hlen, line_eq]; omega, fun p hp => ?_⟩
    have pf : p ∉ f := fun z => RTl.known rl p z hp
    have r2 : RTl K N' (upd H2 p (.lst vs)) vs ts f := RTl.mono (Same.refl _) ts (fun a ha => upd_ne (fun (z : a = p) => pf (z ▸ ha))) rl
    refine h N' H' g (.ref p) (upd H2 p (.lst vs)) (p :: f) (fun a o q => ?_) (.l upd_same r2) (List.nodup_cons.mpr ⟨pf, nd⟩) fun a ha => ?_
    · have := e2 a o q
      rw [upd_ne (ne_of_none this hp)]
      exact this
    · rcases List.mem_cons.mp ha with rfl | ha
      · exact e2.free hp
      · exact fr a ha
end
section
variable {X : Cx} {C : Cn} {a : Expr} {ta : TE} {pos : Pos} {es : List Expr} {t : TA} {ms : List ET}
structure STrs (X : Cx) (C : Cn) (es : List Expr) (t : TA) (ms : List ET) : Prop where
  pa : PA X es t
  ev : EvTs X.K C t ms
theorem strs_nil : STrs X C [] tNil [] := ⟨pa_nil, ets_nil⟩
theorem strs_cons {me : ET} (h : STr X C a ta me) (hr : STrs X C es t ms) (hs : starEach (a :: es) X.env = (false, eval a X.env) :: starEach es X.env := by rfl) : STrs X C (a :: es) (tCons ta t) (me :: ms) := ⟨pa_cons h.pe hr.pa hs, ets_cons h.ev hr.ev⟩
theorem str_lstN (h : STrs X C es t ms) (h15 : ms.length ≤ 100 := by decide) : STr X C (.List es pos) (tLst t) (tLstT ms) := ⟨pe_lst h.pa, et_lstN h.ev h15⟩
end
end Vm

/-! Reasoning about the value machine's texts. -/
noncomputable section
namespace Vm
def Ok0 (r : Flow) (N : Env → Prop) (R : Val → Prop) (B T : Env → Prop) : Prop := match r with
  | .next e => N e
  | .ret x _ => R x
  | .brk e => B e
  | .cont e => T e
  | _ => False
/-- how a statement ends: N onward, R a value returned, B behind a break, T behind a continue -/
structure Ok (r : Flow) (N : Env → Prop) (R : Val → Prop) (B : Env → Prop := fun _ => False) (T : Env → Prop := fun _ => False) : Prop where
  of : Ok0 r N R B T
theorem Ok_eq (r : Flow) (N R B T) : Ok r N R B T = Ok0 r N R B T := propext ⟨fun h => h.of, fun h => ⟨h⟩⟩
theorem Ok_next (e : Env) (N R B T) : Ok (.next e) N R B T = N e := Ok_eq _ _ _ _ _
theorem Ok_ret (x : Val) (e : Env) (N R B T) : Ok (.ret x e) N R B T = R x := Ok_eq _ _ _ _ _
theorem Ok_brk (e : Env) (N R B T) : Ok (.brk e) N R B T = B e := Ok_eq _ _ _ _ _
theorem Ok_cont (e : Env) (N R B T) : Ok (.cont e) N R B T = T e := Ok_eq _ _ _ _ _
theorem Ok_bind (r : Flow) (f : Env → Flow) (N R B T) : Ok (r.bind f) N R B T = Ok r (fun e => Ok (f e) N R B T) R B T := by
  cases r with
  | next e => rw [Ok_next]; rfl
  | _ => rw [Ok_eq, Ok_eq]; rfl
theorem Ok.imp {r : Flow} {N N' : Env → Prop} {R R' : Val → Prop} {B B' T T' : Env → Prop} (h : Ok r N R B T) (h1 : ∀ e, N e → N' e) (h2 : ∀ x, R x → R' x) (h3 : ∀ e, B e → B' e) (h4 : ∀ e, T e → T' e) : Ok r N' R' B' T' := by
  have h := h.of
  refine ⟨?_⟩
  cases r <;> first | exact h1 _ h | exact h2 _ h | exact h3 _ h | exact h4 _ h | exact h
theorem forL_ok {put : Put} {body : ST} {N R B T} : ∀ (xs : List Val) (I : Nat → Env → Prop) (env : Env), I 0 env →
    (∀ i (h : i < xs.length) env, I i env → ∃ e, put xs[i] env = .ok e ∧ Ok (body e) (I (i + 1)) R N (I (i + 1))) → (∀ env, I xs.length env → N env) → Ok (forL put body xs env) N R B T
  | [], I, env, h0, _, hN => ⟨hN env h0⟩
  | x :: xs, I, env, h0, hs, hN => by
    obtain ⟨e, he, hb⟩ := hs 0 (by simp) env h0
    have he : put x env = .ok e := he
    unfold forL
    rw [he]
    simp only [Res.nx_ok, Res.flow_ok]
    have tl : ∀ e', I 1 e' → Ok (forL put body xs e') N R B T := fun e' h' =>
      forL_ok xs (fun i => I (i + 1)) e' h' (fun i h env hi => hs (i + 1) (by simpa using h) env hi) fun env h => hN env h
    have hb := hb.of
    cases hq : body e with
    | next e' => rw [hq] at hb; exact tl e' hb
    | cont e' => rw [hq] at hb; exact tl e' hb
    | brk e' => rw [hq] at hb; exact ⟨hb⟩
    | ret v => rw [hq] at hb; exact ⟨hb⟩
    | exc q e' => rw [hq] at hb; exact ⟨hb⟩
    | bad => rw [hq] at hb; exact ⟨hb⟩
theorem whileL_ok {t : EB} {body : ST} {N R B T} (I : Nat → Env → Prop)
    (hs : ∀ k env, I k env → ∃ b, t env = .ok b ∧ (b = true → Ok (body env) (fun e => ∃ k', k' < k ∧ I k' e) R N (fun e => ∃ k', k' < k ∧ I k' e)) ∧ (b = false → N env)) :
    ∀ (n k : Nat) (env : Env), k < n → I k env → Ok (whileL t body n env) N R B T
  | 0, k, env, h, _ => by omega
  | n + 1, k, env, h, hi => by
    obtain ⟨b, hb, h1, h2⟩ := hs k env hi
    unfold whileL
    rw [hb]
    simp only [Res.flow_ok]
    cases b with
    | false => exact ⟨h2 rfl⟩
    | true =>
      have hb := (h1 rfl).of
      have tl : ∀ e, (∃ k', k' < k ∧ I k' e) → Ok (whileL t body n e) N R B T := fun e ⟨k', hk, hi'⟩ => whileL_ok I hs n k' e (by omega) hi'
      simp only [cond_true]
      cases hq : body env with
      | next e' => rw [hq] at hb; exact tl e' hb
      | cont e' => rw [hq] at hb; exact tl e' hb
      | brk e' => rw [hq] at hb; exact ⟨hb⟩
      | ret v => rw [hq] at hb; exact ⟨hb⟩
      | exc q e' => rw [hq] at hb; exact ⟨hb⟩
      | bad => rw [hq] at hb; exact ⟨hb⟩
theorem Ok_while {n : Nat} {t : EB} {body : ST} {env : Env} {N R B T} (h : Ok (whileL t body n env) N R B T) : Ok (sWhile n t body env) N R B T := h
theorem defn_ret {k n : Nat} {m : ST} {xs : List Val} {y : Val} (hk : xs.length = k) (h : Ok (m (startE n xs)) (fun _ => y = .non) (fun x => x = y)) : defn k n m xs = .ret y := by
  have h := h.of
  unfold defn
  rw [if_pos hk]
  cases hm : m (startE n xs) with
  | next e => rw [hm] at h; exact congrArg DR.ret (show y = .non from h).symm
  | ret x => rw [hm] at h; exact congrArg DR.ret h
  | brk e => rw [hm] at h; exact h.elim
  | cont e => rw [hm] at h; exact h.elim
  | exc q e => rw [hm] at h; exact h.elim
  | bad => rw [hm] at h; exact h.elim
theorem defn_some {k n : Nat} {m : ST} {xs : List Val} {P : Val → Prop} (hk : xs.length = k) (h : Ok (m (startE n xs)) (fun _ => P .non) P) : ∃ y, defn k n m xs = .ret y ∧ P y := by
  have h := h.of
  unfold defn
  rw [if_pos hk]
  cases hm : m (startE n xs) with
  | next e => rw [hm] at h; exact ⟨_, rfl, h⟩
  | ret x => rw [hm] at h; exact ⟨_, rfl, h⟩
  | brk e => rw [hm] at h; exact h.elim
  | cont e => rw [hm] at h; exact h.elim
  | exc q e => rw [hm] at h; exact h.elim
  | bad => rw [hm] at h; exact h.elim

/-! ### rewriting -/
section
variable {α β : Type}
theorem Ok_cond (c : Bool) (a b : Flow) (N R B T) : Ok (bif c then a else b) N R B T = ((c = true → Ok a N R B T) ∧ (c = false → Ok b N R B T)) := by cases c <;> simp
theorem Ok_ite (c : Prop) [Decidable c] (a : Flow) (N R B T) : Ok (if c then a else .bad) N R B T = (c ∧ Ok a N R B T) := by
  by_cases h : c
  · simp [h]
  · rw [if_neg h, Ok_eq]; simp [h, Ok0]
theorem flow_ite (c : Prop) [Decidable c] (r : Res α) (e : Env) (f : α → Flow) : (if c then r else .bad).flow e f = if c then r.flow e f else .bad := by split <;> rfl
theorem bind_ite (c : Prop) [Decidable c] (r : Res α) (f : α → Res β) : (if c then r else .bad).bind f = if c then r.bind f else .bad := by split <;> rfl
theorem nx_ite' (c : Prop) [Decidable c] (r : Res α) : (if c then r else .bad).nx = if c then r.nx else .bad := by split <;> rfl
theorem flow_cond (c : Bool) (r s : Res α) (e : Env) (f : α → Flow) : (bif c then r else s).flow e f = bif c then r.flow e f else s.flow e f := by cases c <;> rfl
theorem bind_cond (c : Bool) (r s : Res α) (f : α → Res β) : (bif c then r else s).bind f = bif c then r.bind f else s.bind f := by cases c <;> rfl
theorem flow_bind (r : Res α) (g : α → Res β) (e : Env) (f : β → Flow) : (r.bind g).flow e f = r.flow e fun x => (g x).flow e f := by cases r <;> rfl
theorem bind_bind {γ : Type} (r : Res α) (g : α → Res β) (f : β → Res γ) : (r.bind g).bind f = r.bind fun x => (g x).bind f := by cases r <;> rfl
theorem cond_andV (x y : Bool) : (bif x then Res.ok (Val.bl y) else Res.ok (Val.bl false)) = Res.ok (Val.bl (x && y)) := by cases x <;> rfl
theorem cond_orV (x y : Bool) : (bif x then Res.ok (Val.bl true) else Res.ok (Val.bl y)) = Res.ok (Val.bl (x || y)) := by cases x <;> rfl
theorem cond_and (x y : Bool) : (bif x then Res.ok y else Res.ok false) = Res.ok (x && y) := by cases x <;> rfl
theorem cond_or (x y : Bool) : (bif x then Res.ok true else Res.ok y) = Res.ok (x || y) := by cases x <;> rfl
theorem atI_nat (xs : List α) (k : Nat) : atI xs (k : Int) = xs[k]? := by
  unfold atI ixNat
  simp only [Int.natCast_nonneg, if_true, Int.ofNat_lt, Int.toNat_natCast]
  split
  · rfl
  · rename_i h; simp; omega
theorem atI_0 (xs : List α) : atI xs 0 = xs[0]? := atI_nat xs 0
theorem atI_1 (xs : List α) : atI xs 1 = xs[1]? := atI_nat xs 1
theorem atI_lit (xs : List α) (n : Nat) : atI xs (no_index (OfNat.ofNat n : Int)) = xs[n]? := atI_nat xs n
theorem atI_m1 (xs : List α) (h : xs ≠ []) : atI xs (-1) = some (xs.getLast h) := by
  have hl : 0 < xs.length := List.length_pos_iff.mpr h
  unfold atI ixNat
  rw [if_neg (by omega), if_pos (by omega)]
  show xs[((-1 : Int) + xs.length).toNat]? = _
  rw [List.getElem?_eq_getElem (by omega), List.getLast_eq_getElem]
  congr 2
  omega
mutual
theorem eqv_refl : ∀ x : Val, x.isData = true → eqv x x = true
  | .non, _ => rfl
  | .bl b, _ => by cases b <;> rfl
  | .int i, _ => by show (i == i) = true; simp
  | .str s, _ => by show (s == s) = true; simp
  | .tup xs, h => eqvs_refl xs h
  | .lst xs, h => eqvs_refl xs h
  | .dct _, h => by cases h
theorem eqvs_refl : ∀ xs : List Val, Val.isDatas xs = true → eqvs xs xs = true
  | [], _ => rfl
  | x :: xs, h => by
    have h : (x.isData && Val.isDatas xs) = true := h
    rw [Bool.and_eq_true] at h
    show (eqv x x && eqvs xs xs) = true
    rw [eqv_refl x h.1, eqvs_refl xs h.2]; rfl
end
theorem eqR_refl (x : Val) (h : x.isData = true) (hd : x.depth ≤ 64) : eqR x x = .ok true := by
  unfold eqR
  rw [eqv_refl x h]
  split
  · rfl
  · rw [if_pos (by simp [h, hd])]
theorem datas_map {f : β → Val} : ∀ xs : List β, (∀ x ∈ xs, (f x).isData = true) → Val.isDatas (xs.map f) = true
  | [], _ => rfl
  | x :: xs, h => by
    show ((f x).isData && Val.isDatas (xs.map f)) = true
    rw [h x List.mem_cons_self, datas_map xs fun y hy => h y (List.mem_cons_of_mem _ hy)]; rfl
theorem depths_map {f : β → Val} {n : Nat} : ∀ xs : List β, (∀ x ∈ xs, (f x).depth ≤ n) → Val.depths (xs.map f) ≤ n
  | [], _ => Nat.zero_le _
  | x :: xs, h => Nat.max_le.mpr ⟨h x List.mem_cons_self, depths_map xs fun y hy => h y (List.mem_cons_of_mem _ hy)⟩
theorem cut_map (f : α → β) (xs : List α) (lo hi : Option Int) : cut (xs.map f) lo hi = (cut xs lo hi).map f := by
  unfold cut
  rw [List.length_map, List.map_take, List.map_drop]
theorem cut_len (xs : List α) (lo hi : Option Int) : (cut xs lo hi).length ≤ xs.length := by
  unfold cut
  rw [List.length_take, List.length_drop]
  omega
theorem ofOpt_eq {α : Type} {o : Option α} {a : α} (h : o = some a) : Res.ofOpt o = .ok a := by rw [h]; rfl
theorem Ok_ofOpt (o : Option α) (e : Env) (f : α → Flow) (N R B T) : Ok ((Res.ofOpt o).flow e f) N R B T = ∃ a, o = some a ∧ Ok (f a) N R B T := by cases o <;> simp [Res.ofOpt, Res.flow, Ok_eq, Ok0]
theorem ofOpt_map (f : α → β) (o : Option α) : Res.ofOpt (o.map f) = (Res.ofOpt o).bind fun x => .ok (f x) := by cases o <;> rfl
theorem eqR_int (i j : Int) : eqR (.int i) (.int j) = .ok (i == j) := rfl
theorem eqR_bl (i j : Bool) : eqR (.bl i) (.bl j) = .ok (i == j) := rfl
theorem eqR_str (i j : Str) : eqR (.str i) (.str j) = .ok (i == j) := rfl
theorem max2 (i j : Int) : (if j > i then j else i) = max i j := by rw [Int.max_def]; split <;> split <;> omega
theorem min2 (i j : Int) : (if j < i then j else i) = min i j := by rw [Int.min_def]; split <;> split <;> omega
theorem vMax2 (i j : Int) : vMax [.int i, .int j] = .ok (.int (max i j)) := by
  show Res.ok (Val.int (if j > i then j else i)) = _
  rw [max2]
theorem vMax3 (i j k : Int) : vMax [.int i, .int j, .int k] = .ok (.int (max (max i j) k)) := by
  show Res.ok (Val.int (if k > (if j > i then j else i) then k else (if j > i then j else i))) = _
  rw [max2, max2]
theorem vMin2 (i j : Int) : vMin [.int i, .int j] = .ok (.int (min i j)) := by
  show Res.ok (Val.int (if j < i then j else i)) = _
  rw [min2]
theorem vDiv_int (i j : Int) : vDiv (.int i) (.int j) = if divOk j = true then .ok (.int (i / j)) else .bad := rfl
theorem vMod_int (i j : Int) : vMod (.int i) (.int j) = if 0 < j then .ok (.int (i % j)) else .bad := rfl
theorem vMul_int (i j : Int) : vMul (.int i) (.int j) = if mulOk i j = true then .ok (.int (i * j)) else .bad := rfl
theorem vPow_int (i j : Int) : vPow (.int i) (.int j) = if powOk i j = true then .ok (.int (i ^ j.toNat)) else .bad := rfl
theorem vPow_lit (i j : Int) (h1 : 0 ≤ j) (h2 : j ≤ 1000000) (h3 : i.natAbs < 18446744073709551616) : vPow (.int i) (.int j) = .ok (.int (i ^ j.toNat)) := if_pos (big_iff.mpr ⟨h1, h2, h3⟩)
theorem vPow18 : vPow (.int 10) (.int 18) = .ok (.int 1000000000000000000) := vPow_lit 10 18 (by omega) (by omega) (by decide)
theorem vPow12 : vPow (.int 10) (.int 12) = .ok (.int 1000000000000) := vPow_lit 10 12 (by omega) (by omega) (by decide)
theorem vPow11 : vPow (.int 10) (.int 11) = .ok (.int 100000000000) := vPow_lit 10 11 (by omega) (by omega) (by decide)
theorem vPow9 : vPow (.int 10) (.int 9) = .ok (.int 1000000000) := vPow_lit 10 9 (by omega) (by omega) (by decide)
theorem vPow6 : vPow (.int 10) (.int 6) = .ok (.int 1000000) := vPow_lit 10 6 (by omega) (by omega) (by decide)
theorem noLst_int (i : Int) : (Val.int i).noLst = true := rfl
theorem noLst_bl (i : Bool) : (Val.bl i).noLst = true := rfl
theorem noLst_str (i : Str) : (Val.str i).noLst = true := rfl
theorem noLst_non : Val.non.noLst = true := rfl
theorem noLst_tup (xs : List Val) : (Val.tup xs).noLst = Val.noLsts xs := rfl
theorem noLsts_nil : Val.noLsts [] = true := rfl
theorem noLsts_cons (x : Val) (xs : List Val) : Val.noLsts (x :: xs) = (x.noLst && Val.noLsts xs) := rfl
theorem noLsts_ints : ∀ ns : List Int, Val.noLsts (ns.map .int) = true
  | [] => rfl
  | _ :: ns => noLsts_ints ns
theorem mulOk_r (i j : Int) (h : -18446744073709551616 < j ∧ j < 18446744073709551616) : mulOk i j = true := big_iff.mpr (.inr h)
theorem mulOk_l (i j : Int) (h : -18446744073709551616 < i ∧ i < 18446744073709551616) : mulOk i j = true := big_iff.mpr (.inl h)
theorem divOk_iff {j : Int} : divOk j = true ↔ 0 < j ∧ j < 1267650600228229401496703205376 := big_iff
end
/-- what follows -/
structure Then (b : ST) (N : Env → Prop) (R : Val → Prop) (B T : Env → Prop) (e : Env) : Prop where
  mk ::
  of : Ok (b e) N R B T
theorem Ok_seq (a b : ST) (env : Env) (N R B T) : Ok (sSeq a b env) N R B T = Ok (a env) (Then b N R B T) R B T := by
  show Ok ((a env).bind b) N R B T = _
  rw [Ok_bind]
  exact congrArg (fun z => Ok (a env) z R B T) (funext fun e => propext ⟨fun h => ⟨h⟩, fun h => h.of⟩)
theorem Then_eq (b : ST) (N R B T) (e : Env) : Then b N R B T e = Ok (b e) N R B T := propext ⟨fun h => h.of, fun h => ⟨h⟩⟩
theorem Ok_sFor (it : EI) (put : Put) (body : ST) (env : Env) (N R B T) : Ok (sFor it put body env) N R B T = Ok ((it (hide env)).flow env fun xs => forL put body xs env) N R B T := rfl
theorem Ok_forL_nil (put : Put) (body : ST) (env : Env) (N R B T) : Ok (forL put body [] env) N R B T = N env := Ok_next _ _ _ _ _
theorem Ok_forL_cons (put : Put) (body : ST) (x : Val) (xs : List Val) (env : Env) (N R B T) : Ok (forL put body (x :: xs) env) N R B T = Ok ((put x env).nx.flow env .next) (fun e => Ok (body e) (fun e' => Ok (forL put body xs e') N R B T) R N (fun e' => Ok (forL put body xs e') N R B T)) (fun _ => False) := by
  show Ok ((put x env).nx.flow env fun e => match body e with
    | .next e' => forL put body xs e'
    | .cont e' => forL put body xs e'
    | .brk e' => .next e'
    | .ret v e' => .ret v e'
    | .exc q e' => .exc q e'
    | .bad => .bad) N R B T = _
  cases hp : put x env with
  | bad => simp [Res.nx, Res.flow, Ok_eq, Ok0]
  | exc q => simp [Res.nx, Res.flow, Ok_eq, Ok0]
  | ok e =>
    simp only [Res.nx_ok, Res.flow_ok, Ok_next]
    cases hb : body e with
    | next e' => simp only [Ok_next]
    | cont e' => simp only [Ok_cont]
    | brk e' => simp only [Ok_next, Ok_brk]
    | ret v => simp only [Ok_ret]
    | exc q e' => simp only [Ok_eq, Ok0]
    | bad => simp only [Ok_eq, Ok0]
theorem Ok_for {it : EI} {put : Put} {body : ST} {env : Env} {xs : List Val} {N R B T} (hi : it (hide env) = .ok xs) (h : Ok (forL put body xs env) N R B T) : Ok (sFor it put body env) N R B T := by
  unfold sFor
  rw [hi]
  exact h
theorem vAdd_int (i j : Int) : vAdd (.int i) (.int j) = .ok (.int (i + j)) := rfl
theorem vAdd_lst (xs ys : List Val) : vAdd (.lst xs) (.lst ys) = if xs.length + ys.length ≤ 16777216 then .ok (.lst (xs ++ ys)) else .bad := rfl
theorem vAdd_tup (xs ys : List Val) : vAdd (.tup xs) (.tup ys) = if xs.length + ys.length ≤ 16777216 ∧ xs.isEmpty = false then .ok (.tup (xs ++ ys)) else .bad := rfl
theorem vLen_lst (xs : List Val) : vLen [.lst xs] = .ok (.int xs.length) := rfl
theorem vLen_tup (xs : List Val) : vLen [.tup xs] = .ok (.int xs.length) := rfl
theorem vIx_lst (xs : List Val) (i : Int) : vIx (.lst xs) (.int i) = Res.ofOpt (atI xs i) := rfl
theorem vIx_tup (xs : List Val) (i : Int) : vIx (.tup xs) (.int i) = Res.ofOpt (atI xs i) := rfl
theorem vIx_dct (kvs : List (Key × Val)) (k : Val) : vIx (.dct kvs) k = Res.ofOpt ((keyOfV k).bind (getV kvs)) := rfl
/-! texts as lists of numbers -/
def S (l : List Nat) : Str := ⟨l.toArray⟩
theorem S_add (a b : List Nat) : S a ++ S b = S (a ++ b) := by
  show PySem.Str.append (S a) (S b) = _
  unfold S PySem.Str.append
  simp
theorem S_len (a : List Nat) : (S a).length = a.length := by unfold S PySem.Str.length; simp
theorem S_inj {a b : List Nat} : S a = S b ↔ a = b := by
  unfold S
  constructor
  · intro h
    injection h with h
    have := congrArg Array.toList h
    simpa using this
  · intro h; rw [h]
theorem S_beq (a b : List Nat) : (S a == S b) = decide (a = b) := by rw [Bool.eq_iff_iff]; simp [S_inj]
theorem vIx_S {l : List Nat} {i : Int} {c : Nat} (hl : l.length ≤ 16777216) (h : atI l i = some c) : vIx (.str (S l)) (.int i) = .ok (.str (S [c])) := by
  show (if (S l).length ≤ 16777216 then Res.ofOpt ((atI (S l).cps.toList i).map fun c => Val.str ⟨#[c]⟩) else .bad) = _
  rw [S_len, if_pos hl, show (S l).cps.toList = l from rfl, h]
  rfl
theorem vLen_S {l : List Nat} (hl : l.length ≤ 16777216) : vLen [.str (S l)] = .ok (.int l.length) := by
  show (if (S l).length ≤ 16777216 then Res.ok (Val.int ((S l).length : Nat)) else .bad) = _
  rw [S_len, if_pos hl]
theorem vAdd_S {a b : List Nat} (hl : a.length + b.length ≤ 16777216) : vAdd (.str (S a)) (.str (S b)) = .ok (.str (S (a ++ b))) := by
  show (if (S a).length + (S b).length ≤ 16777216 then Res.ok (Val.str (S a ++ S b)) else .bad) = _
  rw [S_len, S_len, if_pos hl, S_add]
theorem vEq_S (a b : List Nat) : vEq (.str (S a)) (.str (S b)) = .ok (.bl (decide (a = b))) := by
  have e : (S a == S b) = decide (a = b) := by rw [Bool.eq_iff_iff]; simp [S_inj]
  show Res.ok (Val.bl (S a == S b)) = _
  rw [e]
theorem vNe_S (a b : List Nat) : vNe (.str (S a)) (.str (S b)) = .ok (.bl (!decide (a = b))) := by
  have e : (S a == S b) = decide (a = b) := by rw [Bool.eq_iff_iff]; simp [S_inj]
  show Res.ok (Val.bl (!(S a == S b))) = _
  rw [e]
theorem vIn_S (c : Nat) (b : List Nat) : vIn (.str (S [c])) (.str (S b)) = .ok (.bl (decide (c ∈ b))) := rfl
theorem vNotIn_S (c : Nat) (b : List Nat) : vNotIn (.str (S [c])) (.str (S b)) = .ok (.bl (!decide (c ∈ b))) := rfl
theorem cut_nat {α : Type} (l : List α) (s e : Nat) (h : s ≤ e) (he : e ≤ l.length) : cut l (some (s : Int)) (some (e : Int)) = (l.drop s).take (e - s) := by
  unfold cut cutAt
  simp only [Int.toNat_natCast, show ¬ ((s : Int) < 0) by omega, show ¬ ((e : Int) < 0) by omega, if_false]
  rw [Nat.min_eq_left (show s ≤ l.length by omega), Nat.min_eq_left he]
theorem vCut_S {l : List Nat} (lo hi : Option Int) (hl : l.length ≤ 16777216) : vCut (.str (S l)) lo hi = .ok (.str (S (cut l lo hi))) := by
  show (if (S l).length ≤ 16777216 then Res.ok (Val.str ⟨(cut (S l).cps.toList lo hi).toArray⟩) else .bad) = _
  rw [S_len, if_pos hl]
  rfl
local macro_rules | `(tactic| simp! [$ts,*]) => `(tactic| simp only [Ok_seq, sSet, sSetN, sOwn, sOwnN, sAppend, sAppendN, sFreeze, sForget, sIf, sRet, sRetN, sNext, sPut, sDrop, sAug, sOn, sItem, sItemN, itemPut, sBreak, sCont, hide, Slot.hide, eVar, eC, e1, e2, eArgs, eAnd, eOr, eNot, eIf, eChain, eCall, eCut, partOf, aNil, aCons, asBl, bVal, bTruth, bAnd, bOr, bNot, bYes, truth, vAdd_int, vAdd_lst, vAdd_tup, vSub, vMul_int, vDiv_int, vMod_int, vPow18, vPow12, vPow11, vPow9, vPow6, vNeg, vLt, vLe, vGt, vGe, vEq, vNe, eqR_int, eqR_bl, eqR_str, vIsi, Val.isOb, vTup, vLst, vLen_lst, vLen_tup, vInt, vIs, vIsNot, vIx_lst, vIx_tup, vIx_dct, vListOf, vTupOf, vIpAdd, vMax2, vMax3, vMin2, Val.ty, Ty.sub, noLst_int, noLst_bl, noLst_str, noLst_non, noLst_tup, noLsts_nil, noLsts_cons, noLsts_ints, pName, pTup, pTupL, putAll, iSeq, itemsOf, iRange1, iRange2, DR.res, Res.ofOpt_some, Res.ofOpt_none, Res.bind_ok, Res.bind_exc, Res.bind_bad, Res.nx_ok, Res.flow_ok, Res.flow_bad, Flow.bind_next, Flow.bind_ret, Flow.bind_brk, Flow.bind_cont, Flow.bind_bad, Ok_next, Ok_ret, Ok_brk, Ok_cont, Ok_bind, Ok_cond, Ok_ite, Ok_ofOpt, flow_ite, bind_ite, nx_ite', flow_cond, bind_cond, cond_andV, cond_orV, cond_and, cond_or, atI_nat, atI_0, atI_1, atI_lit, startE, List.map_cons, List.map_nil, List.length_cons, List.length_nil, List.getElem?_cons_zero, List.getElem?_cons_succ, List.set_cons_zero, List.set_cons_succ, List.set_nil, List.replicate, List.append_nil, List.cons_append, List.nil_append, Nat.sub_self, Nat.reduceAdd, Nat.reduceSub, Nat.reduceLT, Nat.reduceLeDiff, Nat.reduceEqDiff, Int.reduceLE, Int.reduceLT, Int.reduceToNat, Int.reducePow, Int.reduceMul, Int.reduceAdd, Int.reduceSub, Int.reduceNeg, Int.cast_ofNat_Int, if_true, if_false, ↓reduceIte, reduceCtorEq, beq_self_eq_true, and_true, true_and, decide_eq_true_eq, decide_eq_false_iff_not, Bool.not_eq_true', Bool.not_eq_false', Bool.and_true, Bool.true_and, Bool.or_true, Bool.and_false, Bool.or_false, Bool.false_or, Bool.true_or, Bool.false_and, Bool.not_true, Bool.not_false, beq_iff_eq, forall_const, false_implies, Option.map_some, decide_true, decide_false, cond_true, cond_false, $ts,*])


/-! ### parts of a cell (the laws' own helper, alike in all) -/
def m_parts_ca_1 : ST := (sSet 3 (e2 vDiv (eVar 3) (e2 vIx (eVar 1) (eVar 4))))
def m_parts_cae_2 : ST := (sAppend 2 (e2 vMod (eArgs vInt (aCons (eVar 5) aNil)) (e2 vIx (eVar 1) (eVar 4))))
def m_parts_cae_1 : ST := (sSeq (sSet 5 (e2 vMod (eArgs vInt (aCons (e2 vAdd (e2 vAdd (e2 vMul (eVar 5) (eVar 5)) (e2 vMul (eC (.int 16807)) (eVar 4))) (eC (.int 5))) aNil)) (eC (.int 998244353))))
    m_parts_cae_2)
def m_parts_c_L : ST := (sIf (bVal (e2 vGe (eVar 3) (eC (.int 0)))) (sSeq (sAppend 2 (e2 vMod (eArgs vInt (aCons (eVar 3) aNil)) (e2 vIx (eVar 1) (eVar 4))))
    m_parts_ca_1) (sSeq (sSet 5 (e2 vMod (eArgs vInt (aCons (e2 vAdd (e2 vAdd (e2 vMul (eVar 0) (eC (.int 48271))) (e2 vMul (eVar 4) (eC (.int 69621)))) (eC (.int 11))) aNil)) (eC (.int 2147483647))))
    m_parts_cae_1))
def m_parts_c_F : ST := (sFor (iRange1 (eArgs vLen (aCons (eVar 1) aNil))) (pName 4) m_parts_c_L)
def m_parts_4 : ST := (sRet (eVar 2))
def m_parts_3 : ST := (sSeq (sFreeze 2) m_parts_4)
def m_parts_2 : ST := (sSeq m_parts_c_F
    m_parts_3)
def m_parts_1 : ST := (sSeq (sSet 3 (e2 vSub (eVar 0) (e2 vPow (eC (.int 10)) (eC (.int 18)))))
    m_parts_2)
def m_parts : ST := (sSeq (sOwn 2 (eArgs vLst aNil))
    m_parts_1)
/-- each part lies under its size -/
def Parts (ps sizes : List Int) : Prop := ps.length = sizes.length ∧ ∀ i (h : i < ps.length) (h' : i < sizes.length), 0 ≤ ps[i] ∧ ps[i] < sizes[i]
theorem map_get? {β : Type} (f : Int → β) (xs : List Int) (i : Nat) (h : i < xs.length) : (xs.map f)[i]? = some (f xs[i]) := by
  rw [List.getElem?_map, List.getElem?_eq_getElem h]; rfl
theorem smallI_nat {n : Nat} (h : n ≤ 16777216) : smallI (n : Int) = true := by
  exact big_iff.mpr ⟨by omega, by omega⟩
theorem range1_ok {a : EX} {env : Env} {n : Nat} (ha : a env = .ok (.int n)) (h : n ≤ 16777216) : iRange1 a env = .ok (rangeL 0 n) := by
  unfold iRange1
  rw [ha]
  simp only [Res.bind_ok, smallI_nat h, if_true, Int.toNat_natCast]
theorem range_get (lo : Int) (n i : Nat) (h : i < (rangeL lo n).length) : (rangeL lo n)[i] = .int (lo + i) := by simp [rangeL]
theorem range_len (lo : Int) (n : Nat) : (rangeL lo n).length = n := by simp [rangeL]
theorem Parts.nil : Parts [] [] := ⟨rfl, fun i h => by cases h⟩
theorem parts_ok (c : Int) (sizes : List Int) (hs : ∀ n ∈ sizes, 0 < n ∧ n < 18446744073709551616) (hl : sizes.length ≤ 100) : ∃ y, defn 2 6 m_parts [.int c, .lst (sizes.map .int)] = .ret y ∧ ∃ ps, y = .lst (ps.map .int) ∧ Parts ps sizes := by
  refine defn_some rfl ?_
  unfold m_parts
  simp! []
  refine Then.mk ?_; unfold m_parts_1; simp! []
  refine Then.mk ?_; unfold m_parts_2; simp! []
  unfold m_parts_c_F
  refine Ok_for (xs := rangeL 0 sizes.length) ?_ ?_
  · exact range1_ok (by simp! [List.length_map]) (by omega)
  refine forL_ok _ (fun i env => ∃ (r : Int) (ps : List Int) (s4 s5 : Slot), env = [.sh (.int c), .sh (.lst (sizes.map .int)), .oL (ps.map .int), .sh (.int r), s4, s5] ∧ i ≤ sizes.length ∧ Parts ps (sizes.take i)) _ ⟨_, [], .un, .un, rfl, Nat.zero_le _, Parts.nil⟩ ?_ ?_
  · rintro i hi env ⟨r, ps, s4, s5, rfl, hi', hp⟩
    rw [range_len] at hi
    rw [range_get, Int.zero_add]
    refine ⟨[.sh (.int c), .sh (.lst (sizes.map .int)), .oL (ps.map .int), .sh (.int r), .sh (.int i), s5], rfl, ?_⟩
    have hn := hs sizes[i] (List.getElem_mem hi)
    have hget : (sizes.map Val.int)[i]? = some (.int sizes[i]) := map_get? _ _ _ hi
    have hlen : ps.length = i := by rw [hp.1, List.length_take]; omega
    have hpow : sizes[i] < 1267650600228229401496703205376 := by have := hn.2; omega
    have step : ∀ (x r' : Int) (s4 s5 : Slot), 0 ≤ x → x < sizes[i] → ∃ (r : Int) (ps' : List Int) (s4' s5' : Slot), [Slot.sh (.int c), .sh (.lst (sizes.map .int)), .oL (ps.map .int ++ [.int x]), .sh (.int r'), s4, s5] = [.sh (.int c), .sh (.lst (sizes.map .int)), .oL (ps'.map .int), .sh (.int r), s4', s5'] ∧ i + 1 ≤ sizes.length ∧ Parts ps' (sizes.take (i + 1)) := by
      intro x r' s4 s5 h1 h2
      refine ⟨r', ps ++ [x], s4, s5, by simp, hi, ?_⟩
      refine ⟨by simp [hlen]; omega, fun j h h' => ?_⟩
      by_cases hj : j < i
      · have := hp.2 j (by omega) (by rw [List.length_take]; omega)
        simp only [List.getElem_append_left (show j < ps.length by omega), List.getElem_take] at this ⊢
        exact this
      · have hj' : j = i := by simp at h; omega
        subst hj'
        simp [hlen]
        exact ⟨h1, h2⟩
    unfold m_parts_c_L
    simp! [hget, List.length_map, hlen]
    refine ⟨fun h0 => ⟨hn.1, by omega, ?_⟩, fun h0 => ⟨mulOk_r _ _ (by omega), mulOk_r _ _ (by omega), ?_⟩⟩
    · refine Then.mk ?_; unfold m_parts_ca_1; simp! [hget]
      exact ⟨divOk_iff.mpr ⟨hn.1, hpow⟩, step _ _ _ _ (Int.emod_nonneg _ (by omega)) (Int.emod_lt_of_pos _ hn.1)⟩
    · refine Then.mk ?_; unfold m_parts_cae_1; simp! [hget]
      refine ⟨mulOk_r _ _ ?_, mulOk_l _ _ (by omega), ?_⟩
      · have h1 := Int.emod_nonneg (c * 48271 + ↑i * 69621 + 11) (show (2147483647 : Int) ≠ 0 by omega)
        have h2 := Int.emod_lt_of_pos (c * 48271 + ↑i * 69621 + 11) (show (0 : Int) < 2147483647 by omega)
        omega
      · refine Then.mk ?_; unfold m_parts_cae_2; simp! [hget, List.length_map, hlen]
        exact ⟨hn.1, by omega, step _ _ _ _ (Int.emod_nonneg _ (by omega)) (Int.emod_lt_of_pos _ hn.1)⟩
  · rintro env ⟨r, ps, s4, s5, rfl, _, hp⟩
    rw [range_len, List.take_length] at hp
    refine Then.mk ?_; unfold m_parts_3; simp! []
    refine Then.mk ?_; unfold m_parts_4; simp! []
    exact ⟨_, rfl, hp⟩
/-- a cell of the script (the laws' own helper) -/
def m_cell : ST := (sSeq (sIf (bVal (e2 vLt (eVar 1) (eArgs vLen (aCons (eVar 0) aNil)))) (sRet (e2 vIx (eVar 0) (eVar 1))) sNext)
    (sRet (eC (.int 0))))
theorem cell_ok (ns : List Int) (k : Nat) : ∃ c, defn 2 2 m_cell [.lst (ns.map .int), .int k] = .ret (.int c) := by
  suffices h : ∃ y, defn 2 2 m_cell [.lst (ns.map .int), .int k] = .ret y ∧ ∃ c, y = .int c by
    obtain ⟨y, h, c, rfl⟩ := h; exact ⟨c, h⟩
  refine defn_some rfl ?_
  unfold m_cell
  simp! [List.length_map]
  refine ⟨fun h => ?_, fun _ => Then.mk ?_⟩
  · rw [map_get? _ _ _ (by omega)]
    exact ⟨_, rfl, _, rfl⟩
  · simp! []
    exact ⟨_, rfl⟩
def m_isint : ST := (sRet (eAnd (e1 (vIsi .int) (eVar 0)) (eNot (e1 (vIsi .bool) (eVar 0)))))
theorem isint_ok (i : Int) : defn 1 1 m_isint [.int i] = .ret (.bl true) := rfl
theorem Parts.nil' {ps : List Int} (h : Parts ps []) : ps = [] := List.eq_nil_of_length_eq_zero h.1
theorem Parts.cons {ps ns : List Int} {n : Int} (h : Parts ps (n :: ns)) : ∃ p ps', ps = p :: ps' ∧ (0 ≤ p ∧ p < n) ∧ Parts ps' ns := by
  obtain ⟨h1, h2⟩ := h
  cases ps with
  | nil => cases h1
  | cons p ps =>
    refine ⟨p, ps, rfl, h2 0 (by simp) (by simp), by simpa using h1, fun i h h' => ?_⟩
    exact h2 (i + 1) (by simpa using h) (by simpa using h')
theorem lt_cases4 {i : Int} (h0 : 0 ≤ i) (h : i < 4) : i = 0 ∨ i = 1 ∨ i = 2 ∨ i = 3 := by omega
theorem ixNat_0 (n : Nat) (h : 0 < n) : ixNat n 0 = some 0 := by unfold ixNat; rw [if_pos (by omega), if_pos (by omega)]; rfl
theorem ixNat_nat (n k : Nat) (h : k < n) : ixNat n (k : Int) = some k := by unfold ixNat; rw [if_pos (by omega), if_pos (by omega)]; rfl
end Vm
end

/-! Lemmas about comprehensions, and the laws' common helpers. -/
noncomputable section
namespace Vm
local macro_rules | `(tactic| simp! [$ts,*]) => `(tactic| simp only [Ok_seq, sSet, sSetN, sOwn, sOwnN, sAppend, sAppendN, sFreeze, sForget, sIf, sRet, sRetN, sNext, sPut, sDrop, sAug, sOn, sItem, sItemN, itemPut, sBreak, sCont, hide, Slot.hide, eVar, eC, e1, e2, eArgs, eAnd, eOr, eNot, eIf, eChain, eCall, eCut, partOf, aNil, aCons, asBl, bVal, bTruth, bAnd, bOr, bNot, bYes, truth, vAdd_int, vAdd_lst, vAdd_tup, vSub, vMul_int, vDiv_int, vMod_int, vPow18, vPow12, vPow11, vPow9, vPow6, vNeg, vLt, vLe, vGt, vGe, vEq, vNe, eqR_int, eqR_bl, eqR_str, vIsi, Val.isOb, vTup, vLst, vLen_lst, vLen_tup, vInt, vIs, vIsNot, vIx_lst, vIx_tup, vIx_dct, vListOf, vTupOf, vIpAdd, vMax2, vMax3, vMin2, Val.ty, Ty.sub, noLst_int, noLst_bl, noLst_str, noLst_non, noLst_tup, noLsts_nil, noLsts_cons, noLsts_ints, pName, pTup, pTupL, putAll, iSeq, itemsOf, iRange1, iRange2, DR.res, Res.ofOpt_some, Res.ofOpt_none, Res.bind_ok, Res.bind_exc, Res.bind_bad, Res.nx_ok, Res.flow_ok, Res.flow_bad, Flow.bind_next, Flow.bind_ret, Flow.bind_brk, Flow.bind_cont, Flow.bind_bad, Ok_next, Ok_ret, Ok_brk, Ok_cont, Ok_bind, Ok_cond, Ok_ite, Ok_ofOpt, flow_ite, bind_ite, nx_ite', flow_cond, bind_cond, cond_andV, cond_orV, cond_and, cond_or, atI_nat, atI_0, atI_1, atI_lit, startE, List.map_cons, List.map_nil, List.length_cons, List.length_nil, List.getElem?_cons_zero, List.getElem?_cons_succ, List.set_cons_zero, List.set_cons_succ, List.set_nil, List.replicate, List.append_nil, List.cons_append, List.nil_append, Nat.sub_self, Nat.reduceAdd, Nat.reduceSub, Nat.reduceLT, Nat.reduceLeDiff, Nat.reduceEqDiff, Int.reduceLE, Int.reduceLT, Int.reduceToNat, Int.reducePow, Int.reduceMul, Int.reduceAdd, Int.reduceSub, Int.reduceNeg, Int.cast_ofNat_Int, if_true, if_false, ↓reduceIte, reduceCtorEq, beq_self_eq_true, and_true, true_and, decide_eq_true_eq, decide_eq_false_iff_not, Bool.not_eq_true', Bool.not_eq_false', Bool.and_true, Bool.true_and, Bool.or_true, Bool.and_false, Bool.or_false, Bool.false_or, Bool.true_or, Bool.false_and, Bool.not_true, Bool.not_false, beq_iff_eq, forall_const, false_implies, Option.map_some, decide_true, decide_false, cond_true, cond_false, $ts,*])
theorem compL_ok {α : Type} {put : Put} {tt : EB} {el : EX} {env : Env} (enc : α → Val) (p : α → Bool) (g : α → Val) : ∀ (xs : List α), (∀ x ∈ xs, ∃ e, put (enc x) env = .ok e ∧ tt e = .ok (p x) ∧ (p x = true → el e = .ok (g x))) → compL put tt el env (xs.map enc) = .ok ((xs.filter p).map g)
  | [], _ => rfl
  | x :: xs, h => by
    obtain ⟨e, h1, h2, h3⟩ := h x List.mem_cons_self
    have ih := compL_ok enc p g xs fun y hy => h y (List.mem_cons_of_mem _ hy)
    rw [List.map_cons]
    unfold compL
    rw [h1]
    simp only [Res.nx_ok, Res.bind_ok, h2]
    cases hp : p x with
    | false => simp only [cond_false, ih, List.filter_cons, hp]; rfl
    | true => simp only [cond_true, h3 hp, ih, Res.nx_ok, Res.bind_ok, List.filter_cons, hp, if_true, List.map_cons]
theorem compL_all {α : Type} {put : Put} {el : EX} {env : Env} (enc : α → Val) (g : α → Val) (xs : List α) (h : ∀ x ∈ xs, ∃ e, put (enc x) env = .ok e ∧ el e = .ok (g x)) : compL put bYes el env (xs.map enc) = .ok (xs.map g) := by
  have := compL_ok (put := put) (tt := bYes) (el := el) (env := env) enc (fun _ => true) g xs fun x hx => by
    obtain ⟨e, h1, h2⟩ := h x hx
    exact ⟨e, h1, rfl, fun _ => h2⟩
  rwa [List.filter_eq_self.mpr (fun _ _ => rfl)] at this
theorem eComp_ok {α : Type} {it : EI} {own : List Nat} {put : Put} {tt : EB} {el : EX} {env : Env} (enc : α → Val) (p : α → Bool) (g : α → Val) (xs : List α) (hi : it env = .ok (xs.map enc)) (hl : xs.length ≤ 16777216) (h : ∀ x ∈ xs, ∃ e, put (enc x) (wipeE env own) = .ok e ∧ tt e = .ok (p x) ∧ (p x = true → el e = .ok (g x))) : eComp it own put tt el env = .ok (.lst ((xs.filter p).map g)) := by
  unfold eComp
  rw [hi]
  simp only [Res.bind_ok]
  rw [if_pos (by rw [List.length_map]; exact hl), compL_ok enc p g xs h]
  rfl
theorem eComp_all {α : Type} {it : EI} {own : List Nat} {put : Put} {el : EX} {env : Env} (enc : α → Val) (g : α → Val) (xs : List α) (hi : it env = .ok (xs.map enc)) (hl : xs.length ≤ 16777216) (h : ∀ x ∈ xs, ∃ e, put (enc x) (wipeE env own) = .ok e ∧ el e = .ok (g x)) : eComp it own put bYes el env = .ok (.lst (xs.map g)) := by
  unfold eComp
  rw [hi]
  simp only [Res.bind_ok]
  rw [if_pos (by rw [List.length_map]; exact hl), compL_all enc g xs h]
  rfl
/-! rectangles -/
structure Rect where
  l : Str
  a : Int
  b : Int
  c : Int
  d : Int
def Rect.v (r : Rect) : Val := .tup [.str r.l, .int r.a, .int r.b, .int r.c, .int r.d]
def Rect.up (y : Int) (r : Rect) : Rect := ⟨r.l, r.a, r.b + y, r.c, r.d + y⟩
def rectsOf : List Val → Option (List Rect)
  | [] => some []
  | .tup [.str l, .int a, .int b, .int c, .int d] :: xs => (rectsOf xs).map (⟨l, a, b, c, d⟩ :: ·)
  | _ => none
theorem rectsOf_eq : ∀ {xs : List Val} {rs : List Rect}, rectsOf xs = some rs → xs = rs.map Rect.v := by
  intro xs
  induction xs with
  | nil => intro rs h; simp [rectsOf] at h; subst h; rfl
  | cons x xs ih =>
    intro rs h
    unfold rectsOf at h
    split at h
    · rename_i h0; cases h0
    · rename_i h0
      injection h0 with h1 h2
      subst h1; subst h2
      rw [Option.map_eq_some_iff] at h
      obtain ⟨rs', h1, rfl⟩ := h
      rw [ih h1]
      rfl
    · cases h
theorem raised_ok (rs : List Rect) (y : Int) (hl : rs.length ≤ 16777216) : defn 2 7 (sRet (eComp (iSeq (eVar 0)) [2, 3, 4, 5, 6] (pTup [2, 3, 4, 5, 6]) bYes (eArgs vTup (aCons (eVar 2) (aCons (eVar 3) (aCons (e2 vAdd (eVar 4) (eVar 1)) (aCons (eVar 5) (aCons (e2 vAdd (eVar 6) (eVar 1)) aNil))))))))  [.lst (rs.map Rect.v), .int y] = .ret (.lst ((rs.map (Rect.up y)).map Rect.v)) := by
  refine defn_ret rfl ?_
  have := eComp_all (it := iSeq (eVar 0)) (own := [2, 3, 4, 5, 6]) (put := pTup [2, 3, 4, 5, 6]) (el := (eArgs vTup (aCons (eVar 2) (aCons (eVar 3) (aCons (e2 vAdd (eVar 4) (eVar 1)) (aCons (eVar 5) (aCons (e2 vAdd (eVar 6) (eVar 1)) aNil))))))) (env := startE 7 [.lst (rs.map Rect.v), .int y]) Rect.v (fun r => Rect.v (Rect.up y r)) rs rfl hl ?_
  · unfold sRet
    rw [this]
    simp! [List.map_map]
    rfl
  · intro r _
    refine ⟨_, rfl, ?_⟩
    simp! [wipeE]
    rfl
theorem lraised_ok (rs : List Rect) (y : Int) (hl : rs.length ≤ 16777216) : defn 2 3 (sRet (eComp (iSeq (eVar 0)) [2] (pName 2) bYes (eArgs vTup (aCons (e2 vIx (eVar 2) (eC (.int 0))) (aCons (e2 vIx (eVar 2) (eC (.int 1))) (aCons (e2 vAdd (e2 vIx (eVar 2) (eC (.int 2))) (eVar 1)) (aCons (e2 vIx (eVar 2) (eC (.int 3))) (aCons (e2 vAdd (e2 vIx (eVar 2) (eC (.int 4))) (eVar 1)) aNil)))))))) [.lst (rs.map Rect.v), .int y] = .ret (.lst ((rs.map (Rect.up y)).map Rect.v)) := by
  refine defn_ret rfl ?_
  have := eComp_all (it := iSeq (eVar 0)) (own := [2]) (put := pName 2) (el := (eArgs vTup (aCons (e2 vIx (eVar 2) (eC (.int 0))) (aCons (e2 vIx (eVar 2) (eC (.int 1))) (aCons (e2 vAdd (e2 vIx (eVar 2) (eC (.int 2))) (eVar 1)) (aCons (e2 vIx (eVar 2) (eC (.int 3))) (aCons (e2 vAdd (e2 vIx (eVar 2) (eC (.int 4))) (eVar 1)) aNil))))))) (env := startE 3 [.lst (rs.map Rect.v), .int y]) Rect.v (fun r => Rect.v (Rect.up y r)) rs rfl hl ?_
  · unfold sRet
    rw [this]
    simp! [List.map_map]
    rfl
  · intro r _
    refine ⟨_, rfl, ?_⟩
    simp! [wipeE, Rect.v]
    rfl
def m_isint' : ST := (sRet (eAnd (e1 (vIsi .int) (eVar 0)) (eNot (e1 (vIsi .bool) (eVar 0)))))
def m_same_bb_L : ST := (sIf (bNot (bTruth (eCall (defn 1 1 m_isint') (aCons (eVar 3) aNil)))) (sRet (eC (.bl false))) sNext)
def m_same_bb_F : ST := (sFor (iSeq (eCut (e2 vIx (eVar 0) (eVar 2)) (some (eC (.int 1))) none)) (pName 3) m_same_bb_L)
def m_same_b_2 : ST := (sIf (bVal (e2 vNe (e2 vIx (eVar 0) (eVar 2)) (e2 vIx (eVar 1) (eVar 2)))) (sRet (eC (.bl false))) sNext)
def m_same_b_1 : ST := (sSeq m_same_bb_F
    m_same_b_2)
def m_same_b_L : ST := (sSeq (sIf (bOr (bNot (bTruth (e1 (vIsi .tuple) (e2 vIx (eVar 0) (eVar 2))))) (bOr (bVal (e2 vNe (eArgs vLen (aCons (e2 vIx (eVar 0) (eVar 2)) aNil)) (eC (.int 5)))) (bNot (bTruth (e1 (vIsi .str) (e2 vIx (e2 vIx (eVar 0) (eVar 2)) (eC (.int 0)))))))) (sRet (eC (.bl false))) sNext)
    m_same_b_1)
def m_same_b_F : ST := (sFor (iRange1 (eArgs vLen (aCons (eVar 1) aNil))) (pName 2) m_same_b_L)
def m_same_2 : ST := (sRet (eC (.bl true)))
def m_same_1 : ST := (sSeq m_same_b_F
    m_same_2)
def m_same : ST := (sSeq (sIf (bOr (bNot (bTruth (e1 (vIsi .list) (eVar 0)))) (bVal (e2 vNe (eArgs vLen (aCons (eVar 0) aNil)) (eArgs vLen (aCons (eVar 1) aNil))))) (sRet (eC (.bl false))) sNext)
    m_same_1)
theorem isint_int (z : Int) : defn 1 1 m_isint' [.int z] = .ret (.bl true) := rfl
theorem same_ok (rs : List Rect) (hl : rs.length ≤ 16777216) (hs : ∀ r ∈ rs, r.l.cps.all (· < 0x110000) = true) : defn 2 4 m_same [.lst (rs.map Rect.v), .lst (rs.map Rect.v)] = .ret (.bl true) := by
  refine defn_ret rfl ?_
  unfold m_same
  simp! [List.length_map, Bool.not_eq_true, Int.reduceBEq, decide_true]
  refine Then.mk ?_; unfold m_same_1; simp! []
  unfold m_same_b_F
  refine Ok_for (xs := rangeL 0 rs.length) (range1_ok (by simp! [List.length_map]) hl) ?_
  refine forL_ok _ (fun i env => ∃ s2 s3, env = [.sh (.lst (rs.map Rect.v)), .sh (.lst (rs.map Rect.v)), s2, s3]) _ ⟨_, _, rfl⟩ ?_ ?_
  · rintro i hi env ⟨s2, s3, rfl⟩
    rw [range_len] at hi
    rw [range_get, Int.zero_add]
    refine ⟨_, rfl, ?_⟩
    have hg : (rs.map Rect.v)[i]? = some (rs[i]).v := by rw [List.getElem?_map, List.getElem?_eq_getElem hi]; rfl
    have hd : (rs[i].v).isData = true := by
      have := hs rs[i] (List.getElem_mem hi)
      simp only [Rect.v, Val.isData, Val.isDatas, this, Bool.and_self]
    have hv : vIx (.lst (rs.map Rect.v)) (.int (i : Int)) = .ok rs[i].v := by rw [vIx_lst, atI_nat, hg]; rfl
    unfold m_same_b_L
    simp! [hg, hv]
    simp only [Rect.v]
    simp! [Int.reduceBNe]
    refine Then.mk ?_; unfold m_same_b_1; simp! []
    unfold m_same_bb_F
    refine Ok_for (xs := [rs[i].a, rs[i].b, rs[i].c, rs[i].d].map Val.int) ?_ ?_
    · simp! [hg]
      rw [show rs[i].v = Val.tup [.str rs[i].l, .int rs[i].a, .int rs[i].b, .int rs[i].c, .int rs[i].d] from rfl]
      rfl
    · refine forL_ok _ (fun j env => ∃ s3, env = [.sh (.lst (rs.map Rect.v)), .sh (.lst (rs.map Rect.v)), .sh (.int i), s3]) _ ⟨_, rfl⟩ ?_ ?_
      · rintro j hj env ⟨s3, rfl⟩
        rw [List.getElem_map]
        refine ⟨_, rfl, ?_⟩
        unfold m_same_bb_L
        simp! [isint_int]
        exact ⟨_, rfl⟩
      · rintro env ⟨s3, rfl⟩
        have he : eqR rs[i].v rs[i].v = .ok true := eqR_refl _ hd (by simp [Rect.v, Val.depth, Val.depths])
        refine Then.mk ?_; unfold m_same_b_2; simp! [hg, he]
        exact ⟨_, _, rfl⟩
  · rintro env ⟨s2, s3, rfl⟩
    refine Then.mk ?_; unfold m_same_2; simp! []
end Vm
end

/-! Circuits: the laws' generator, the values of the nets. -/
noncomputable section
namespace Vm
namespace Lib
open PySem
def m__law_cell_1 : ST := (sRet (eC (.int 0)))
def m__law_cell : ST := (sSeq (sIf (bVal (e2 vLt (eVar 1) (eArgs vLen (aCons (eVar 0) aNil)))) (sRet (e2 vIx (eVar 0) (eVar 1))) sNext)
    m__law_cell_1)
def f__law_cell : Fn := defn 2 2 m__law_cell

def e__law_bare_1 : EX := (eComp (iSeq (e2 vIx (eVar 1) (eC (.int 2)))) [2] (pName 2) bYes (e2 vMod (eArgs vInt (aCons (eVar 2) aNil)) (e2 vIx (eVar 1) (eC (.int 0)))))
def m__law_bare_1 : ST := (sRet (eArgs vTup (aCons (e2 vIx (eVar 1) (eC (.int 0))) (aCons (eArgs vTup aNil) (aCons (eArgs vTupOf (aCons e__law_bare_1 aNil)) (aCons (eArgs vTup aNil) aNil))))))
def m__law_bare : ST := (sSeq (sIf (bOr (bVal (e2 vEq (e2 vIx (eVar 1) (eC (.int 0))) (eC (.int 0)))) (bVal (e2 vNe (e2 vMod (eArgs vInt (aCons (eCall f__law_cell (aCons (eVar 0) (aCons (eC (.int 2)) aNil))) aNil)) (eC (.int 8))) (eC (.int 5))))) (sRet (eVar 1)) sNext)
    m__law_bare_1)
def f__law_bare : Fn := defn 2 3 m__law_bare

def m__law_parts_ca_1 : ST := (sSet 3 (e2 vDiv (eVar 3) (e2 vIx (eVar 1) (eVar 4))))
def m__law_parts_cae_2 : ST := (sAppend 2 (e2 vMod (eArgs vInt (aCons (eVar 5) aNil)) (e2 vIx (eVar 1) (eVar 4))))
def m__law_parts_cae_1 : ST := (sSeq (sSet 5 (e2 vMod (eArgs vInt (aCons (e2 vAdd (e2 vAdd (e2 vMul (eVar 5) (eVar 5)) (e2 vMul (eC (.int 16807)) (eVar 4))) (eC (.int 5))) aNil)) (eC (.int 998244353))))
    m__law_parts_cae_2)
def m__law_parts_c_L : ST := (sIf (bVal (e2 vGe (eVar 3) (eC (.int 0)))) (sSeq (sAppend 2 (e2 vMod (eArgs vInt (aCons (eVar 3) aNil)) (e2 vIx (eVar 1) (eVar 4))))
    m__law_parts_ca_1) (sSeq (sSet 5 (e2 vMod (eArgs vInt (aCons (e2 vAdd (e2 vAdd (e2 vMul (eVar 0) (eC (.int 48271))) (e2 vMul (eVar 4) (eC (.int 69621)))) (eC (.int 11))) aNil)) (eC (.int 2147483647))))
    m__law_parts_cae_1))
def m__law_parts_c_F : ST := (sFor (iRange1 (eArgs vLen (aCons (eVar 1) aNil))) (pName 4) m__law_parts_c_L)
def m__law_parts_4 : ST := (sRet (eVar 2))
def m__law_parts_3 : ST := (sSeq (sFreeze 2) m__law_parts_4)
def m__law_parts_2 : ST := (sSeq m__law_parts_c_F
    m__law_parts_3)
def m__law_parts_1 : ST := (sSeq (sSet 3 (e2 vSub (eVar 0) (e2 vPow (eC (.int 10)) (eC (.int 18)))))
    m__law_parts_2)
def m__law_parts : ST := (sSeq (sOwn 2 (eArgs vLst aNil))
    m__law_parts_1)
def f__law_parts : Fn := defn 2 6 m__law_parts

def m_check_bits_b_L : ST := (sIf (bAnd (bVal (e2 vNe (eVar 2) (eC (.int 0)))) (bVal (e2 vNe (eVar 2) (eC (.int 1))))) (sRaise ⟨"InvalidValues", []⟩) sNext)
def m_check_bits_b_F : ST := (sFor (iSeq (eVar 0)) (pName 2) m_check_bits_b_L)
def m_check_bits : ST := (sSeq (sIf (bVal (e2 vNe (eArgs vLen (aCons (eVar 0) aNil)) (eVar 1))) (sRaise ⟨"InvalidValues", []⟩) sNext)
    m_check_bits_b_F)
def f_check_bits : Fn := defn 2 3 m_check_bits

def v_CONSTANTS : List (Str × Val) := [("tie0", .int 0), ("tie1", .int 1)]
def v_NANDS : Val := .tup [.str "not", .str "nand2", .str "nand3"]
def e_cell_value_1 : EX := (eComp (iSeq (eVar 1)) [2] (pName 2) bYes (e2 vEq (eVar 2) (eC (.int 1))))
def e_cell_value_2 : EX := (eComp (iSeq (eVar 1)) [2] (pName 2) bYes (e2 vEq (eVar 2) (eC (.int 1))))
def m_cell_value_2 : ST := (sRet (eArgs vInt (aCons (eNot (eArgs vAny (aCons e_cell_value_2 aNil))) aNil)))
def m_cell_value_1 : ST := (sSeq (sIf (bVal (e2 vIn (eVar 0) (eC v_NANDS))) (sRet (eArgs vInt (aCons (eNot (eArgs vAll (aCons e_cell_value_1 aNil))) aNil))) sNext)
    m_cell_value_2)
def m_cell_value : ST := (sSeq (sIf (bVal (e1 (vKIn v_CONSTANTS) (eVar 0))) (sRet (e1 (vKGet v_CONSTANTS) (eVar 0))) sNext)
    m_cell_value_1)
def f_cell_value : Fn := defn 2 3 m_cell_value

def e_settled_values_1 : EX := (eComp (iEnumV (eVar 1)) [10, 11] (pTup [10, 11]) bYes (eGet2 (eVar 3) (eVar 10) (eVar 11)))
def e_settled_values_2 : EX := (eComp (iSeq (eVar 7)) [10] (pName 10) bYes (e2 vIx (eVar 4) (eVar 10)))
def m_settled_values_c_1 : ST := (sAppend 4 (eGet2 (eVar 3) (eVar 8) (eVar 9)))
def m_settled_values_c_L : ST := (sSeq (sIf (bVal (e2 vEq (eVar 6) (eC (.str "latch")))) (sPopAtTo 5 9 (eC (.int 0))) (sSetN 9 (eCall f_cell_value (aCons (eVar 6) (aCons e_settled_values_2 aNil)))))
    m_settled_values_c_1)
def m_settled_values_c_F : ST := (sFor (iSeq (e2 vIx (eVar 0) (eC (.int 1)))) (pTup [6, 7, 8]) m_settled_values_c_L)
def m_settled_values_4 : ST := (sRet (eVar 4))
def m_settled_values_3 : ST := (sSeq (sFreeze 4) m_settled_values_4)
def m_settled_values_2 : ST := (sSeq m_settled_values_c_F
    m_settled_values_3)
def m_settled_values_1 : ST := (sSeq (sOwn 5 (eArgs vListOf (aCons (eVar 2) aNil)))
    m_settled_values_2)
def m_settled_values : ST := (sSeq (sOwn 4 e_settled_values_1)
    m_settled_values_1)
def f_settled_values : Fn := defn 4 12 m_settled_values

def e_latch_cells_1 : EX := (eComp (iSeq (e2 vIx (eVar 0) (eC (.int 1)))) [1] (pName 1) (bVal (e2 vEq (e2 vIx (eVar 1) (eC (.int 0))) (eC (.str "latch")))) (eVar 1))
def m_latch_cells : ST := (sRet e_latch_cells_1)
def f_latch_cells : Fn := defn 1 2 m_latch_cells

def m_cell_values_2 : ST := (sRet (eCall f_settled_values (aCons (eVar 0) (aCons (eVar 1) (aCons (eVar 2) (aCons (eC (.dct [])) aNil))))))
def m_cell_values_1 : ST := (sSeq (sDrop (eCall f_check_bits (aCons (eVar 2) (aCons (eArgs vLen (aCons (eCall f_latch_cells (aCons (eVar 0) aNil)) aNil)) aNil))))
    m_cell_values_2)
def m_cell_values : ST := (sSeq (sDrop (eCall f_check_bits (aCons (eVar 1) (aCons (e2 vIx (eVar 0) (eC (.int 0))) aNil))))
    m_cell_values_1)
def f_cell_values : Fn := defn 3 3 m_cell_values

def e_circuit_outputs_1 : EX := (eComp (iSeq (e2 vIx (eVar 0) (eC (.int 2)))) [4] (pName 4) bYes (e2 vIx (eVar 3) (eVar 4)))
def m_circuit_outputs_1 : ST := (sRet e_circuit_outputs_1)
def m_circuit_outputs : ST := (sSeq (sSet 3 (eCall f_cell_values (aCons (eVar 0) (aCons (eVar 1) (aCons (eVar 2) aNil)))))
    m_circuit_outputs_1)
def f_circuit_outputs : Fn := defn 3 5 m_circuit_outputs

def e_circuit_next_1 : EX := (eComp (iSeq (eCall f_latch_cells (aCons (eVar 0) aNil))) [4] (pName 4) bYes (e2 vIx (eVar 3) (e2 vIx (e2 vIx (eVar 4) (eC (.int 1))) (eC (.int 0)))))
def m_circuit_next_1 : ST := (sRet e_circuit_next_1)
def m_circuit_next : ST := (sSeq (sSet 3 (eCall f_cell_values (aCons (eVar 0) (aCons (eVar 1) (aCons (eVar 2) aNil)))))
    m_circuit_next_1)
def f_circuit_next : Fn := defn 3 5 m_circuit_next

def m__law_kind_5 : ST := (sRet (eVar 4))
def m__law_kind_4 : ST := (sSeq (sIf (bAnd (bVal (e2 vIn (eVar 4) (eArgs vLst (aCons (eC (.str "nand2")) (aCons (eC (.str "nor2")) (aCons (eC (.str "nand3")) (aCons (eC (.str "nor3")) aNil))))))) (bVal (e2 vLt (eVar 1) (eArgs vInt (aCons (e2 vIx (eVar 4) (e1 vNeg (eC (.int 1)))) aNil))))) (sRet (e2 vIx (eArgs vLst (aCons (eC (.str "not")) (aCons (eC (.str "nand2")) aNil))) (e2 vSub (eVar 1) (eC (.int 1))))) sNext)
    m__law_kind_5)
def m__law_kind_3 : ST := (sSeq (sIf (bAnd (bVal (e2 vEq (eVar 1) (eC (.int 0)))) (bVal (e2 vNe (eVar 4) (eC (.str "latch"))))) (sRet (e2 vIx (eArgs vLst (aCons (eC (.str "tie0")) (aCons (eC (.str "tie1")) aNil))) (e2 vMod (eArgs vInt (aCons (e2 vIx (eVar 0) (eC (.int 1))) aNil)) (eC (.int 2))))) sNext)
    m__law_kind_4)
def m__law_kind_2 : ST := (sSeq (sIf (bAnd (bVal (e2 vEq (eVar 4) (eC (.str "latch")))) (bVal (e2 vEq (eVar 2) (eC (.int 4))))) (sSet 4 (eC (.str "not"))) sNext)
    m__law_kind_3)
def m__law_kind_1 : ST := (sSeq (sSet 4 (e2 vIx (e2 vAdd (eVar 3) (eArgs vLst (aCons (eC (.str "latch")) (aCons (eC (.str "latch")) (aCons (eC (.str "tie0")) (aCons (eC (.str "tie1")) aNil)))))) (e2 vIx (eVar 0) (eC (.int 0)))))
    m__law_kind_2)
def m__law_kind : ST := (sSeq (sSet 3 (eArgs vLst (aCons (eC (.str "not")) (aCons (eC (.str "not")) (aCons (eC (.str "nand2")) (aCons (eC (.str "nand2")) (aCons (eC (.str "nand2")) (aCons (eC (.str "nand3")) (aCons (eC (.str "nand3")) (aCons (eC (.str "nor2")) (aCons (eC (.str "nor2")) (aCons (eC (.str "nor2")) (aCons (eC (.str "nor3")) (aCons (eC (.str "nor3")) aNil))))))))))))))
    m__law_kind_1)
def f__law_kind : Fn := defn 3 5 m__law_kind

def m__law_drawn_c_L : ST := (sAppPop 4 3 (e2 vMod (eArgs vInt (aCons (e2 vIx (eVar 0) (e2 vAdd (eC (.int 1)) (eVar 5))) aNil)) (eArgs vLen (aCons (eVar 3) aNil))))
def m__law_drawn_c_F : ST := (sFor (iRange1 (eVar 1)) (pName 5) m__law_drawn_c_L)
def m__law_drawn_4 : ST := (sRet (eArgs vTupOf (aCons (eVar 4) aNil)))
def m__law_drawn_3 : ST := (sSeq (sFreeze 4) m__law_drawn_4)
def m__law_drawn_2 : ST := (sSeq m__law_drawn_c_F
    m__law_drawn_3)
def m__law_drawn_1 : ST := (sSeq (sOwn 4 (eArgs vLst aNil))
    m__law_drawn_2)
def m__law_drawn : ST := (sSeq (sOwn 3 (eRange1 .lst (eVar 2)))
    m__law_drawn_1)
def f__law_drawn : Fn := defn 3 6 m__law_drawn

def m__law_circuit7_ec_1 : ST := (sAppend 3 (eArgs vTup (aCons (eVar 9) (aCons (eCall f__law_drawn (aCons (eVar 8) (aCons (eC (.int 1)) (aCons (eVar 5) aNil)))) (aCons (eVar 6) aNil)))))
def m__law_circuit7_e_2 : ST := (sIf (bVal (e2 vEq (eVar 9) (eC (.str "latch")))) (sSeq (sSet 4 (e2 vAdd (eVar 4) (eC (.int 1))))
    m__law_circuit7_ec_1) (sIf (bVal (e2 vIn (eVar 9) (eArgs vLst (aCons (eC (.str "tie0")) (aCons (eC (.str "tie1")) aNil))))) (sAppend 3 (eArgs vTup (aCons (eVar 9) (aCons (eArgs vTup aNil) (aCons (eVar 6) aNil))))) (sIf (bVal (e2 vEq (eVar 9) (eC (.str "not")))) (sAppend 3 (eArgs vTup (aCons (eVar 9) (aCons (eCall f__law_drawn (aCons (eVar 8) (aCons (eC (.int 1)) (aCons (eVar 6) aNil)))) (aCons (eVar 6) aNil))))) (sAppend 3 (eArgs vTup (aCons (eVar 9) (aCons (eCall f__law_drawn (aCons (eVar 8) (aCons (eArgs vInt (aCons (e2 vIx (eVar 9) (e1 vNeg (eC (.int 1)))) aNil)) (aCons (eVar 6) aNil)))) (aCons (eVar 6) aNil))))))))
def m__law_circuit7_e_1 : ST := (sSeq (sSet 9 (eCall f__law_kind (aCons (eVar 8) (aCons (eVar 6) (aCons (eVar 4) aNil)))))
    m__law_circuit7_e_2)
def m__law_circuit7_e_L : ST := (sSeq (sSet 8 (eCall f__law_parts (aCons (eCall f__law_cell (aCons (eVar 0) (aCons (e2 vSub (e2 vAdd (eC (.int 3)) (eVar 6)) (e2 vIx (eVar 2) (eC (.int 0)))) aNil))) (aCons (eArgs vLst (aCons (eC (.int 16)) (aCons (eC (.int 100)) (aCons (eC (.int 100)) (aCons (eC (.int 100)) aNil))))) aNil))))
    m__law_circuit7_e_1)
def m__law_circuit7_e_F : ST := (sFor (iRange2 (e2 vIx (eVar 2) (eC (.int 0))) (eVar 5)) (pName 6) m__law_circuit7_e_L)
def e__law_circuit7_1 : EX := (eComp (iRange1 (e2 vAdd (eC (.int 1)) (e2 vIx (eVar 2) (eC (.int 1))))) [10] (pName 10) bYes (e2 vMod (eArgs vInt (aCons (e2 vAdd (e2 vIx (eVar 2) (eC (.int 2))) (e2 vMul (eVar 10) (e2 vIx (eVar 2) (eC (.int 3))))) aNil)) (eVar 5)))
def e__law_circuit7_2 : EX := (eComp (iRange1 (eVar 4)) [10] (pName 10) bYes (e2 vMod (eArgs vInt (aCons (e2 vAdd (e2 vIx (eVar 2) (eC (.int 2))) (eVar 10)) aNil)) (eC (.int 4))))
def m__law_circuit7_7 : ST := (sRet (eArgs vTup (aCons (e2 vIx (eVar 2) (eC (.int 0))) (aCons (eArgs vTupOf (aCons (eVar 3) aNil)) (aCons (eVar 7) (aCons (eArgs vTupOf (aCons e__law_circuit7_2 aNil)) aNil))))))
def m__law_circuit7_6 : ST := (sSeq (sSet 7 (eArgs vTupOf (aCons e__law_circuit7_1 aNil)))
    m__law_circuit7_7)
def m__law_circuit7_5 : ST := (sSeq (sFreeze 3) m__law_circuit7_6)
def m__law_circuit7_4 : ST := (sSeq m__law_circuit7_e_F
    m__law_circuit7_5)
def m__law_circuit7_3 : ST := (sSeq (sSet 5 (e2 vAdd (e2 vIx (eVar 2) (eC (.int 0))) (eArgs vMin (aCons (eVar 1) (aCons (eArgs vMax (aCons (eC (.int 1)) (aCons (e2 vSub (eArgs vLen (aCons (eVar 0) aNil)) (eC (.int 3))) aNil))) aNil)))))
    m__law_circuit7_4)
def m__law_circuit7_2 : ST := (sSeq (sSet 4 (eC (.int 0)))
    m__law_circuit7_3)
def m__law_circuit7_1 : ST := (sSeq (sOwn 3 (eArgs vLst aNil))
    m__law_circuit7_2)
def m__law_circuit7 : ST := (sSeq (sSet 2 (eCall f__law_parts (aCons (eCall f__law_cell (aCons (eVar 0) (aCons (eC (.int 0)) aNil))) (aCons (eArgs vLst (aCons (eC (.int 7)) (aCons (eC (.int 6)) (aCons (eC (.int 100)) (aCons (eC (.int 100)) aNil))))) aNil))))
    m__law_circuit7_1)
def f__law_circuit7 : Fn := defn 2 11 m__law_circuit7

def m__law_bits_b_1 : ST := (sSet 0 (e2 vDiv (eVar 0) (eC (.int 2))))
def m__law_bits_b_L : ST := (sSeq (sAppend 2 (e2 vMod (eArgs vInt (aCons (eVar 0) aNil)) (eC (.int 2))))
    m__law_bits_b_1)
def m__law_bits_b_F : ST := (sFor (iRange1 (eVar 1)) (pName 3) m__law_bits_b_L)
def m__law_bits_3 : ST := (sRet (eVar 2))
def m__law_bits_2 : ST := (sSeq (sFreeze 2) m__law_bits_3)
def m__law_bits_1 : ST := (sSeq m__law_bits_b_F
    m__law_bits_2)
def m__law_bits : ST := (sSeq (sOwn 2 (eArgs vLst aNil))
    m__law_bits_1)
def f__law_bits : Fn := defn 2 4 m__law_bits

def m__law_wrong_6 : ST := (sRet (e2 vAdd (e2 vAdd (eCut (eVar 0) none (some (eVar 3))) (eArgs vLst (aCons (eVar 2) aNil))) (eCut (eVar 0) (some (e2 vAdd (eVar 3) (eC (.int 1)))) none)))
def m__law_wrong_5 : ST := (sSeq (sIf (bVal (e2 vEq (e2 vMod (eArgs vInt (aCons (eVar 1) aNil)) (eC (.int 3))) (eC (.int 1)))) (sRet (e2 vAdd (eCut (eVar 0) none (some (eVar 3))) (eCut (eVar 0) (some (e2 vAdd (eVar 3) (eC (.int 1)))) none))) sNext)
    m__law_wrong_6)
def m__law_wrong_4 : ST := (sSeq (sSet 3 (e2 vMod (eArgs vInt (aCons (eVar 3) aNil)) (eArgs vLen (aCons (eVar 0) aNil))))
    m__law_wrong_5)
def m__law_wrong_3 : ST := (sSeq (sIf (bVal (e2 vEq (eArgs vLen (aCons (eVar 0) aNil)) (eC (.int 0)))) (sRet (eArgs vLst (aCons (eVar 2) aNil))) sNext)
    m__law_wrong_4)
def m__law_wrong_2 : ST := (sSeq (sIf (bVal (e2 vEq (e2 vMod (eArgs vInt (aCons (eVar 1) aNil)) (eC (.int 3))) (eC (.int 0)))) (sRet (e2 vAdd (e2 vAdd (eCut (eVar 0) none (some (eVar 3))) (eArgs vLst (aCons (eC (.int 1)) aNil))) (eCut (eVar 0) (some (eVar 3)) none))) sNext)
    m__law_wrong_3)
def m__law_wrong_1 : ST := (sSeq (sSet 3 (e2 vMod (e2 vDiv (eArgs vInt (aCons (eVar 1) aNil)) (eC (.int 12))) (e2 vAdd (eArgs vLen (aCons (eVar 0) aNil)) (eC (.int 1)))))
    m__law_wrong_2)
def m__law_wrong : ST := (sSeq (sSet 2 (e2 vIx (eArgs vLst (aCons (eC (.int 2)) (aCons (e1 vNeg (eC (.int 1))) (aCons (eC (.int 3)) (aCons (e2 vAdd (eC (.int 11)) (eVar 1)) aNil))))) (e2 vMod (e2 vDiv (eArgs vInt (aCons (eVar 1) aNil)) (eC (.int 3))) (eC (.int 4)))))
    m__law_wrong_1)
def f__law_wrong : Fn := defn 2 4 m__law_wrong

def m__law_value_2 : ST := (sRet (eArgs vInt (aCons (e2 vLt (eArgs vSum (aCons (eVar 1) aNil)) (eArgs vLen (aCons (eVar 1) aNil))) aNil)))
def m__law_value_1 : ST := (sSeq (sIf (bVal (e2 vEq (eCut (eVar 0) none (some (eC (.int 3)))) (eC (.str "nor")))) (sRet (eArgs vInt (aCons (e2 vEq (eArgs vSum (aCons (eVar 1) aNil)) (eC (.int 0))) aNil))) sNext)
    m__law_value_2)
def m__law_value : ST := (sSeq (sIf (bVal (e2 vEq (eCut (eVar 0) none (some (eC (.int 3)))) (eC (.str "tie")))) (sRet (eArgs vInt (aCons (e2 vIx (eVar 0) (eC (.int 3))) aNil))) sNext)
    m__law_value_1)
def f__law_value : Fn := defn 2 2 m__law_value

def m__law_values_ca_1 : ST := (sSet 4 (e2 vAdd (eVar 4) (eC (.int 1))))
def e__law_values_1 : EX := (eComp (iSeq (e2 vIx (eVar 5) (eC (.int 1)))) [6] (pName 6) bYes (e2 vIx (eVar 3) (eVar 6)))
def m__law_values_c_L : ST := (sIf (bVal (e2 vEq (e2 vIx (eVar 5) (eC (.int 0))) (eC (.str "latch")))) (sSeq (sAppend 3 (e2 vIx (eVar 2) (eVar 4)))
    m__law_values_ca_1) (sAppendN 3 (eCall f__law_value (aCons (e2 vIx (eVar 5) (eC (.int 0))) (aCons e__law_values_1 aNil)))))
def m__law_values_c_F : ST := (sFor (iSeq (e2 vIx (eVar 0) (eC (.int 1)))) (pName 5) m__law_values_c_L)
def m__law_values_4 : ST := (sRet (eVar 3))
def m__law_values_3 : ST := (sSeq (sFreeze 3) m__law_values_4)
def m__law_values_2 : ST := (sSeq m__law_values_c_F
    m__law_values_3)
def m__law_values_1 : ST := (sSeq (sSet 4 (eC (.int 0)))
    m__law_values_2)
def m__law_values : ST := (sSeq (sOwn 3 (eArgs vListOf (aCons (eVar 1) aNil)))
    m__law_values_1)
def f__law_values : Fn := defn 3 7 m__law_values

def m__law_is_integer : ST := (sRet (eAnd (e1 (vIsi .int) (eVar 0)) (eNot (e1 (vIsi .bool) (eVar 0)))))
def f__law_is_integer : Fn := defn 1 1 m__law_is_integer

def m__law_is_bits_b_L : ST := (sIf (bOr (bNot (bTruth (eCall f__law_is_integer (aCons (eVar 2) aNil)))) (bOr (bVal (e2 vLt (eVar 2) (eC (.int 0)))) (bVal (e2 vGt (eVar 2) (eC (.int 1)))))) (sRet (eC (.bl false))) sNext)
def m__law_is_bits_b_F : ST := (sFor (iSeq (eVar 0)) (pName 2) m__law_is_bits_b_L)
def m__law_is_bits_2 : ST := (sRet (eC (.bl true)))
def m__law_is_bits_1 : ST := (sSeq m__law_is_bits_b_F
    m__law_is_bits_2)
def m__law_is_bits : ST := (sSeq (sIf (bOr (bNot (bTruth (e1 (vIsi .list) (eVar 0)))) (bVal (e2 vNe (eArgs vLen (aCons (eVar 0) aNil)) (eVar 1)))) (sRet (eC (.bl false))) sNext)
    m__law_is_bits_1)
def f__law_is_bits : Fn := defn 2 3 m__law_is_bits

end Lib
end Vm
end

noncomputable section
namespace Vm
local macro_rules | `(tactic| simp! [$ts,*]) => `(tactic| simp only [Ok_seq, sSet, sSetN, sOwn, sOwnN, sAppend, sAppendN, sFreeze, sForget, sIf, sRet, sRetN, sNext, sPut, sDrop, sAug, sOn, sItem, sItemN, itemPut, sBreak, sCont, hide, Slot.hide, eVar, eC, e1, e2, eArgs, eAnd, eOr, eNot, eIf, eChain, eCall, eCut, partOf, aNil, aCons, asBl, bVal, bTruth, bAnd, bOr, bNot, bYes, truth, vAdd_int, vAdd_lst, vAdd_tup, vSub, vMul_int, vDiv_int, vMod_int, vPow18, vPow12, vPow11, vPow9, vPow6, vNeg, vLt, vLe, vGt, vGe, vEq, vNe, eqR_int, eqR_bl, eqR_str, vIsi, Val.isOb, vTup, vLst, vLen_lst, vLen_tup, vInt, vIs, vIsNot, vIx_lst, vIx_tup, vIx_dct, vListOf, vTupOf, vIpAdd, vMax2, vMax3, vMin2, Val.ty, Ty.sub, noLst_int, noLst_bl, noLst_str, noLst_non, noLst_tup, noLsts_nil, noLsts_cons, noLsts_ints, pName, pTup, pTupL, putAll, iSeq, itemsOf, iRange1, iRange2, DR.res, Res.ofOpt_some, Res.ofOpt_none, Res.bind_ok, Res.bind_exc, Res.bind_bad, Res.nx_ok, Res.flow_ok, Res.flow_bad, Flow.bind_next, Flow.bind_ret, Flow.bind_brk, Flow.bind_cont, Flow.bind_bad, Ok_next, Ok_ret, Ok_brk, Ok_cont, Ok_bind, Ok_cond, Ok_ite, Ok_ofOpt, flow_ite, bind_ite, nx_ite', flow_cond, bind_cond, cond_andV, cond_orV, cond_and, cond_or, atI_nat, atI_0, atI_1, atI_lit, startE, List.map_cons, List.map_nil, List.length_cons, List.length_nil, List.getElem?_cons_zero, List.getElem?_cons_succ, List.set_cons_zero, List.set_cons_succ, List.set_nil, List.replicate, List.append_nil, List.cons_append, List.nil_append, Nat.sub_self, Nat.reduceAdd, Nat.reduceSub, Nat.reduceLT, Nat.reduceLeDiff, Nat.reduceEqDiff, Int.reduceLE, Int.reduceLT, Int.reduceToNat, Int.reducePow, Int.reduceMul, Int.reduceAdd, Int.reduceSub, Int.reduceNeg, Int.cast_ofNat_Int, if_true, if_false, ↓reduceIte, reduceCtorEq, beq_self_eq_true, and_true, true_and, decide_eq_true_eq, decide_eq_false_iff_not, Bool.not_eq_true', Bool.not_eq_false', Bool.and_true, Bool.true_and, Bool.or_true, Bool.and_false, Bool.or_false, Bool.false_or, Bool.true_or, Bool.false_and, Bool.not_true, Bool.not_false, beq_iff_eq, forall_const, false_implies, Option.map_some, decide_true, decide_false, cond_true, cond_false, $ts,*])
def bv (b : Bool) : Val := .int (b2i b)
theorem bv_f : bv false = .int 0 := rfl
theorem bv_t : bv true = .int 1 := rfl
theorem blsOf_map : ∀ bs : List Bool, blsOf (bs.map Val.bl) = some bs
  | [] => rfl
  | b :: bs => by show (blsOf (bs.map Val.bl)).map (b :: ·) = _; rw [blsOf_map bs]; rfl
theorem intsOf_map : ∀ ns : List Int, intsOf (ns.map Val.int) = some ns
  | [] => rfl
  | b :: bs => by show (intsOf (bs.map Val.int)).map (b :: ·) = _; rw [intsOf_map bs]; rfl
theorem bv_ints (bs : List Bool) : bs.map bv = (bs.map b2i).map Val.int := by rw [List.map_map]; rfl
theorem vAll_bls (bs : List Bool) : vAll [.lst (bs.map .bl)] = .ok (.bl (bs.all id)) := by
  show (Res.ofOpt (blsOf (bs.map Val.bl))).bind _ = _
  rw [blsOf_map]; rfl
theorem vAny_bls (bs : List Bool) : vAny [.lst (bs.map .bl)] = .ok (.bl (bs.any id)) := by
  show (Res.ofOpt (blsOf (bs.map Val.bl))).bind _ = _
  rw [blsOf_map]; rfl
theorem vSum_ints (ns : List Int) : vSum [.lst (ns.map .int)] = .ok (.int ns.sum) := by
  show (Res.ofOpt (intsOf (ns.map Val.int))).bind _ = _
  rw [intsOf_map]; rfl
/-- a walk, by what is left of it -/
theorem forL_ind {α : Type} {put : Put} {body : ST} {N : Env → Prop} {R : Val → Prop} {B T : Env → Prop} (enc : α → Val) (P : List α → Env → Prop)
    (hs : ∀ x xs env, P (x :: xs) env → ∃ e, put (enc x) env = .ok e ∧ Ok (body e) (P xs) R N (P xs)) (hN : ∀ env, P [] env → N env) : ∀ (xs : List α) (env : Env), P xs env → Ok (forL put body (xs.map enc) env) N R B T
  | [], env, h => ⟨hN env h⟩
  | x :: xs, env, h => by
    obtain ⟨e, he, hb⟩ := hs x xs env h
    rw [List.map_cons]
    unfold forL
    rw [he]
    simp only [Res.nx_ok, Res.flow_ok]
    have tl : ∀ e', P xs e' → Ok (forL put body (xs.map enc) e') N R B T := fun e' h' => forL_ind enc P hs hN xs e' h'
    have hb := hb.of
    cases hq : body e with
    | next e' => rw [hq] at hb; exact tl e' hb
    | cont e' => rw [hq] at hb; exact tl e' hb
    | brk e' => rw [hq] at hb; exact ⟨hb⟩
    | ret v => rw [hq] at hb; exact ⟨hb⟩
    | exc q e' => rw [hq] at hb; exact ⟨hb⟩
    | bad => rw [hq] at hb; exact ⟨hb⟩
theorem enumL_map {α : Type} (f : α → Val) : ∀ (xs : List α) (n : Nat), enumL n (xs.map f) = (xs.zipIdx n).map fun p => .tup [.int (p.2 : Nat), f p.1]
  | [], _ => rfl
  | x :: xs, n => by
    rw [List.map_cons, List.zipIdx_cons, List.map_cons, ← enumL_map f xs (n + 1)]
    rfl
/-! ### circuits -/
structure Cell where
  k : Str
  ins : List Nat
  out : Nat
def iv (n : Nat) : Val := .int (n : Int)
def Cell.v (c : Cell) : Val := .tup [.str c.k, .tup (c.ins.map iv), iv c.out]
structure Circ where
  n : Nat
  cells : List Cell
  outs : List Nat
  lat : List Nat
def Circ.v (c : Circ) : Val := .tup [iv c.n, .tup (c.cells.map Cell.v), .tup (c.outs.map iv), .tup (c.lat.map iv)]
def kLatch : Str := "latch"
def kNot : Str := "not"
def kNand2 : Str := "nand2"
def kNand3 : Str := "nand3"
def kNor2 : Str := "nor2"
def kNor3 : Str := "nor3"
def kTie0 : Str := "tie0"
def kTie1 : Str := "tie1"
def arity (k : Str) : Nat := if k = kTie0 ∨ k = kTie1 then 0 else if k = kNand3 ∨ k = kNor3 then 3 else if k = kNand2 ∨ k = kNor2 then 2 else 1
def plainKinds : List Str := [kNot, kNand2, kNand3, kNor2, kNor3, kTie0, kTie1]
def cval (k : Str) (bs : List Bool) : Bool := if k = kTie0 then false else if k = kTie1 then true else if k = kNor2 ∨ k = kNor3 then !(bs.any id) else !(bs.all id)
def latches (cs : List Cell) : List Cell := cs.filter fun c => decide (c.k = kLatch)
/-- good cells, the first one's output m, total nets in all -/
structure GCell (total m : Nat) (c : Cell) : Prop where
  kind : c.k = kLatch ∨ c.k ∈ plainKinds
  ar : c.ins.length = arity c.k
  out : c.out = m
  lt : c.k ≠ kLatch → ∀ i ∈ c.ins, i < m
  tot : ∀ i ∈ c.ins, i < total
  nd : c.ins.Nodup
inductive GCells (total : Nat) : Nat → List Cell → Prop
  | nil (m : Nat) : GCells total m []
  | cons {m : Nat} {c : Cell} {cs : List Cell} : GCell total m c → GCells total (m + 1) cs → GCells total m (c :: cs)
structure Circ.Good (c : Circ) : Prop where
  n6 : c.n ≤ 6
  c40 : c.cells.length ≤ 40
  cells : GCells (c.n + c.cells.length) c.n c.cells
  o1 : 0 < c.outs.length
  o6 : c.outs.length ≤ 6
  outs : ∀ i ∈ c.outs, i < c.n + c.cells.length
  lat : c.lat.length = (latches c.cells).length
  l4 : c.lat.length ≤ 4
/-- the values of the nets, ov what a net's own value is replaced by -/
def runS (ov : Nat → Bool → Bool) : List Cell → List Bool → List Bool → List Bool
  | [], vals, _ => vals
  | c :: cs, vals, st => if c.k = kLatch then runS ov cs (vals ++ [ov c.out (st.headD false)]) st.tail else runS ov cs (vals ++ [ov c.out (cval c.k (c.ins.map fun i => vals.getD i false))]) st
theorem runS_len (ov : Nat → Bool → Bool) : ∀ (cs : List Cell) (vals st : List Bool), (runS ov cs vals st).length = vals.length + cs.length
  | [], vals, st => rfl
  | c :: cs, vals, st => by
    unfold runS
    split
    · rw [runS_len ov cs, List.length_append, List.length_singleton, List.length_cons]; omega
    · rw [runS_len ov cs, List.length_append, List.length_singleton, List.length_cons]; omega
theorem getD_bv (vals : List Bool) (i : Nat) (h : i < vals.length) : (vals.map bv)[i]? = some (bv (vals.getD i false)) := by
  rw [List.getElem?_map, List.getElem?_eq_getElem h, List.getD, List.getElem?_eq_getElem h]; rfl
namespace Lib
open PySem
theorem isint_bv (b : Bool) : f__law_is_integer [bv b] = .ret (.bl true) := rfl
theorem isint_int (b : Int) : f__law_is_integer [.int b] = .ret (.bl true) := rfl
theorem e_is1 (k : Val) (bs : List Bool) (hl : bs.length ≤ 16777216) : e_cell_value_1 [.sh k, .sh (.lst (bs.map bv)), .un] = .ok (.lst (bs.map .bl)) := by
  unfold e_cell_value_1
  rw [eComp_all bv Val.bl bs rfl hl]
  intro b _
  refine ⟨_, rfl, ?_⟩
  cases b <;> rfl
theorem e_is2 (k : Val) (bs : List Bool) (hl : bs.length ≤ 16777216) : e_cell_value_2 [.sh k, .sh (.lst (bs.map bv)), .un] = .ok (.lst (bs.map .bl)) := e_is1 k bs hl
theorem cell_value_ok (k : Str) (hk : k ∈ plainKinds) (bs : List Bool) (hl : bs.length ≤ 16777216) : f_cell_value [.str k, .lst (bs.map bv)] = .ret (bv (cval k bs)) := by
  refine defn_ret rfl ?_
  have e1 := e_is1 (.str k) bs hl
  have e2 := e_is2 (.str k) bs hl
  have vi : ∀ b : Bool, vInt [.bl b] = .ok (bv b) := fun b => rfl
  simp only [plainKinds, List.mem_cons, List.not_mem_nil, or_false] at hk
  rcases hk with rfl | rfl | rfl | rfl | rfl | rfl | rfl
  all_goals unfold m_cell_value
  · have a : vKIn v_CONSTANTS (.str kNot) = .ok (.bl false) := rfl
    have b : vIn (.str kNot) v_NANDS = .ok (.bl true) := rfl
    simp! [a]
    refine Then.mk ?_; unfold m_cell_value_1; simp! [b, e1, vAll_bls]
    rfl
  · have a : vKIn v_CONSTANTS (.str kNand2) = .ok (.bl false) := rfl
    have b : vIn (.str kNand2) v_NANDS = .ok (.bl true) := rfl
    simp! [a]
    refine Then.mk ?_; unfold m_cell_value_1; simp! [b, e1, vAll_bls]
    rfl
  · have a : vKIn v_CONSTANTS (.str kNand3) = .ok (.bl false) := rfl
    have b : vIn (.str kNand3) v_NANDS = .ok (.bl true) := rfl
    simp! [a]
    refine Then.mk ?_; unfold m_cell_value_1; simp! [b, e1, vAll_bls]
    rfl
  · have a : vKIn v_CONSTANTS (.str kNor2) = .ok (.bl false) := rfl
    have b : vIn (.str kNor2) v_NANDS = .ok (.bl false) := rfl
    simp! [a]
    refine Then.mk ?_; unfold m_cell_value_1; simp! [b]
    refine Then.mk ?_; unfold m_cell_value_2; simp! [e2, vAny_bls]
    rfl
  · have a : vKIn v_CONSTANTS (.str kNor3) = .ok (.bl false) := rfl
    have b : vIn (.str kNor3) v_NANDS = .ok (.bl false) := rfl
    simp! [a]
    refine Then.mk ?_; unfold m_cell_value_1; simp! [b]
    refine Then.mk ?_; unfold m_cell_value_2; simp! [e2, vAny_bls]
    rfl
  · have a : vKIn v_CONSTANTS (.str kTie0) = .ok (.bl true) := rfl
    have b : vKGet v_CONSTANTS (.str kTie0) = .ok (.int 0) := rfl
    simp! [a, b]
    rfl
  · have a : vKIn v_CONSTANTS (.str kTie1) = .ok (.bl true) := rfl
    have b : vKGet v_CONSTANTS (.str kTie1) = .ok (.int 1) := rfl
    simp! [a, b]
    rfl
theorem sum_b2i (bs : List Bool) : ((bs.map b2i).sum == 0) = !(bs.any id) ∧ decide ((bs.map b2i).sum < (bs.length : Int)) = !(bs.all id) ∧ 0 ≤ (bs.map b2i).sum ∧ (bs.map b2i).sum ≤ (bs.length : Int) := by
  induction bs with
  | nil => exact ⟨rfl, rfl, by decide, by decide⟩
  | cons b bs ih =>
    obtain ⟨h1, h2, h3, h4⟩ := ih
    have ec : ((b :: bs).length : Int) = (bs.length : Int) + 1 := by simp
    have es : ((b :: bs).map b2i).sum = b2i b + (bs.map b2i).sum := by simp
    rw [es, ec]
    cases b with
    | true =>
      have eb : b2i true = 1 := rfl
      rw [eb]
      refine ⟨?_, ?_, by omega, by omega⟩
      · have : (1 + (bs.map b2i).sum == 0) = false := by rw [beq_eq_false_iff_ne]; omega
        rw [this]; rfl
      · have : decide (1 + (bs.map b2i).sum < (bs.length : Int) + 1) = decide ((bs.map b2i).sum < (bs.length : Int)) := by rw [decide_eq_decide]; omega
        rw [this, h2]; rfl
    | false =>
      have eb : b2i false = 0 := rfl
      rw [eb, Int.zero_add]
      refine ⟨?_, ?_, by omega, by omega⟩
      · rw [h1]; rfl
      · have : decide ((bs.map b2i).sum < (bs.length : Int) + 1) = true := by rw [decide_eq_true_eq]; omega
        rw [this]; rfl
theorem lvalue_ok (k : Str) (hk : k ∈ plainKinds) (bs : List Bool) : f__law_value [.str k, .lst (bs.map bv)] = .ret (bv (cval k bs)) := by
  refine defn_ret rfl ?_
  obtain ⟨s1, s2, _, _⟩ := sum_b2i bs
  simp only [plainKinds, List.mem_cons, List.not_mem_nil, or_false] at hk
  have tie : ∀ (k : Str) (z : Str) (x : Int), vCut (.str k) none (some 3) = .ok (.str "tie") → vIx (.str k) (.int 3) = .ok (.str z) → digitOf z = some x → bv (cval k bs) = .int x → Ok (m__law_value (startE 2 [.str k, .lst (bs.map bv)])) (fun _ => bv (cval k bs) = .non) (fun y => y = bv (cval k bs)) := by
    intro k z x h1 h2 h3 h4
    unfold m__law_value
    simp! [h1, h2, h3, h4]
  have nor : ∀ (k : Str), vCut (.str k) none (some 3) = .ok (.str "nor") → cval k bs = (!bs.any id) → Ok (m__law_value (startE 2 [.str k, .lst (bs.map bv)])) (fun _ => bv (cval k bs) = .non) (fun y => y = bv (cval k bs)) := by
    intro k h1 h4
    have q : (Str.ofString "nor" == Str.ofString "tie") = false := by decide
    have q' : (Str.ofString "nor" = Str.ofString "tie") = False := eq_false (by decide)
    unfold m__law_value
    simp! [h1, q, q']
    refine Then.mk ?_; unfold m__law_value_1; simp! [h1, bv_ints, vSum_ints, s1, h4]
    rfl
  have nand : ∀ (k : Str) (z : Str), vCut (.str k) none (some 3) = .ok (.str z) → (z == "tie") = false → (z == "nor") = false → cval k bs = (!bs.all id) → Ok (m__law_value (startE 2 [.str k, .lst (bs.map bv)])) (fun _ => bv (cval k bs) = .non) (fun y => y = bv (cval k bs)) := by
    intro k z h1 h2 h3 h4
    have h2' : (z = "tie") = False := eq_false (by simpa using h2)
    have h3' : (z = "nor") = False := eq_false (by simpa using h3)
    unfold m__law_value
    simp! [h1, h2, h2']
    refine Then.mk ?_; unfold m__law_value_1; simp! [h1, h3, h3']
    refine Then.mk ?_; unfold m__law_value_2; simp! [bv_ints, vSum_ints, h4, List.length_map, s2]
    rfl
  rcases hk with rfl | rfl | rfl | rfl | rfl | rfl | rfl
  · exact nand _ _ rfl rfl rfl rfl
  · exact nand _ _ rfl rfl rfl rfl
  · exact nand _ _ rfl rfl rfl rfl
  · exact nor _ rfl rfl
  · exact nor _ rfl rfl
  · exact tie _ _ 0 rfl rfl rfl rfl
  · exact tie _ _ 1 rfl rfl rfl rfl
/-- bits, as many as wanted -/
theorem check_ok (bs : List Bool) (n : Int) (hn : n = bs.length) (hl : bs.length ≤ 16777216) : f_check_bits [.lst (bs.map bv), .int n] = .ret .non := by
  subst hn
  refine defn_ret rfl ?_
  unfold m_check_bits
  simp! [List.length_map, Int.reduceBEq]
  refine Then.mk ?_
  unfold m_check_bits_b_F
  refine Ok_for (xs := bs.map bv) (by simp! []) ?_
  refine forL_ind bv (fun _ env => ∃ s2, env = [.sh (.lst (bs.map bv)), .sh (.int bs.length), s2]) ?_ (fun _ _ => trivial) bs _ ⟨_, rfl⟩
  rintro b bs' env ⟨s2, rfl⟩
  refine ⟨_, rfl, ?_⟩
  unfold m_check_bits_b_L
  cases b
  · simp! [bv_f, Int.reduceBEq]
    exact ⟨_, rfl⟩
  · simp! [bv_t, Int.reduceBEq]
    exact ⟨_, rfl⟩
def badVals : Exn := ⟨"InvalidValues", []⟩
theorem check_exc (ws : List Int) (n : Int) (h : ¬ ((ws.length : Int) = n ∧ ∀ w ∈ ws, w = 0 ∨ w = 1)) : f_check_bits [.lst (ws.map .int), .int n] = .exc badVals := by
  have key : ∃ e, m_check_bits (startE 3 [.lst (ws.map .int), .int n]) = .exc badVals e := by
    unfold m_check_bits sSeq
    by_cases hn : (ws.length : Int) = n
    · have hb : ¬ ∀ w ∈ ws, w = 0 ∨ w = 1 := fun z => h ⟨hn, z⟩
      have e1 : (sIf (bVal (e2 vNe (eArgs vLen (aCons (eVar 0) aNil)) (eVar 1))) (sRaise ⟨"InvalidValues", []⟩) sNext) (startE 3 [.lst (ws.map .int), .int n]) = .next (startE 3 [.lst (ws.map .int), .int n]) := by
        have : ((ws.length : Int) == n) = true := by rw [beq_iff_eq]; exact hn
        simp! [List.length_map, this]
      rw [e1]
      show ∃ e, m_check_bits_b_F (startE 3 [.lst (ws.map .int), .int n]) = .exc badVals e
      unfold m_check_bits_b_F sFor
      have e2 : (iSeq (eVar 0)) (hide (startE 3 [.lst (ws.map .int), .int n])) = .ok (ws.map .int) := rfl
      rw [e2]
      show ∃ e, forL (pName 2) m_check_bits_b_L (ws.map .int) (startE 3 [.lst (ws.map .int), .int n]) = .exc badVals e
      have gen : ∀ (us : List Int) (x y : Val) (s : Slot), (¬ ∀ w ∈ us, w = 0 ∨ w = 1) → ∃ e, forL (pName 2) m_check_bits_b_L (us.map .int) [.sh x, .sh y, s] = .exc badVals e := by
        intro us
        induction us with
        | nil => intro x y s h; exact absurd (fun w hw => by cases hw) h
        | cons u us ih =>
          intro x y s h
          by_cases hu : u = 0 ∨ u = 1
          · have st : m_check_bits_b_L [.sh x, .sh y, .sh (.int u)] = .next [.sh x, .sh y, .sh (.int u)] := by
              unfold m_check_bits_b_L
              rcases hu with rfl | rfl
              · simp! [Int.reduceBEq]
              · simp! [Int.reduceBEq]
            have : forL (pName 2) m_check_bits_b_L ((u :: us).map .int) [.sh x, .sh y, s] = forL (pName 2) m_check_bits_b_L (us.map .int) [.sh x, .sh y, .sh (.int u)] := by
              show (match m_check_bits_b_L [.sh x, .sh y, .sh (.int u)] with
                | .next e' => forL (pName 2) m_check_bits_b_L (us.map .int) e'
                | .cont e' => forL (pName 2) m_check_bits_b_L (us.map .int) e'
                | .brk e' => .next e'
                | .ret v e' => .ret v e'
                | .exc q e' => .exc q e'
                | .bad => .bad) = _
              rw [st]
            rw [this]
            refine ih _ _ _ fun z => h fun w hw => ?_
            rcases List.mem_cons.mp hw with rfl | hw
            · exact hu
            · exact z w hw
          · have st : m_check_bits_b_L [.sh x, .sh y, .sh (.int u)] = .exc badVals [.sh x, .sh y, .sh (.int u)] := by
              unfold m_check_bits_b_L
              have h0 : (u == 0) = false := by rw [beq_eq_false_iff_ne]; omega
              have h1 : (u == 1) = false := by rw [beq_eq_false_iff_ne]; omega
              simp! [h0, h1]
              rfl
            refine ⟨[.sh x, .sh y, .sh (.int u)], ?_⟩
            show (match m_check_bits_b_L [.sh x, .sh y, .sh (.int u)] with
                | .next e' => forL (pName 2) m_check_bits_b_L (us.map .int) e'
                | .cont e' => forL (pName 2) m_check_bits_b_L (us.map .int) e'
                | .brk e' => .next e'
                | .ret v e' => .ret v e'
                | .exc q e' => .exc q e'
                | .bad => .bad) = _
            rw [st]
      exact gen ws _ _ _ hb
    · have e1 : (sIf (bVal (e2 vNe (eArgs vLen (aCons (eVar 0) aNil)) (eVar 1))) (sRaise ⟨"InvalidValues", []⟩) sNext) (startE 3 [.lst (ws.map .int), .int n]) = .exc badVals (startE 3 [.lst (ws.map .int), .int n]) := by
        have : ((ws.length : Int) == n) = false := by rw [beq_eq_false_iff_ne]; exact hn
        simp! [List.length_map, this]
        rfl
      rw [e1]
      exact ⟨_, rfl⟩
  obtain ⟨e, he⟩ := key
  show (if [Val.lst (ws.map .int), .int n].length = 2 then (match m_check_bits (startE 3 [.lst (ws.map .int), .int n]) with
    | .next _ => DR.ret .non
    | .ret x _ => .ret x
    | .exc e _ => .exc e
    | _ => .bad) else .bad) = _
  rw [he]
  rfl
theorem cell_0 (c : Cell) : vIx c.v (.int 0) = .ok (.str c.k) := rfl
theorem cell_1 (c : Cell) : vIx c.v (.int 1) = .ok (.tup (c.ins.map iv)) := rfl
theorem cell_2 (c : Cell) : vIx c.v (.int 2) = .ok (iv c.out) := rfl
theorem circ_0 (c : Circ) : vIx c.v (.int 0) = .ok (iv c.n) := rfl
theorem circ_1 (c : Circ) : vIx c.v (.int 1) = .ok (.tup (c.cells.map Cell.v)) := rfl
theorem circ_2 (c : Circ) : vIx c.v (.int 2) = .ok (.tup (c.outs.map iv)) := rfl
theorem circ_3 (c : Circ) : vIx c.v (.int 3) = .ok (.tup (c.lat.map iv)) := rfl
theorem eq_latch (k : Str) : eqR (.str k) (.str "latch") = .ok (decide (k = kLatch)) := by
  show Res.ok (k == "latch") = _
  congr 1
theorem latch_cells_ok (c : Circ) (hl : c.cells.length ≤ 16777216) : f_latch_cells [c.v] = .ret (.lst ((latches c.cells).map Cell.v)) := by
  refine defn_ret rfl ?_
  unfold m_latch_cells sRet
  have e : e_latch_cells_1 (startE 2 [c.v]) = .ok (.lst ((c.cells.filter fun c => decide (c.k = kLatch)).map Cell.v)) := by
    unfold e_latch_cells_1
    refine eComp_ok Cell.v (fun c => decide (c.k = kLatch)) Cell.v c.cells rfl hl fun x _ => ⟨_, rfl, ?_, fun _ => rfl⟩
    have h : vEq (.str x.k) (.str "latch") = .ok (.bl (decide (x.k = kLatch))) := by unfold vEq; rw [eq_latch]; rfl
    unfold bVal e2
    show ((vIx x.v (.int 0)).bind fun x => (Res.ok (Val.str "latch")).bind fun y => vEq x y).bind _ = _
    rw [cell_0]
    simp only [Res.bind_ok, h]
  rw [e]
  simp! []
  rfl
/-- what a dict of stuck nets says -/
def Stk (kvs : List (Key × Val)) (ov : Nat → Bool → Bool) : Prop := ∀ (n : Nat) (b : Bool), getD kvs (iv n) (bv b) = .ok (bv (ov n b))
theorem stk_nil : Stk [] fun _ b => b := fun n b => rfl
def inVals (ov : Nat → Bool → Bool) (ins : List Bool) : List Bool := ins.zipIdx.map fun p => ov p.2 p.1
theorem inVals_id (ins : List Bool) : inVals (fun _ b => b) ins = ins := by
  unfold inVals
  show ins.zipIdx.map (fun p => p.1) = ins
  rw [show (fun p : Bool × Nat => p.1) = Prod.fst from rfl, List.zipIdx_map_fst]
theorem inVals_len (ov : Nat → Bool → Bool) (ins : List Bool) : (inVals ov ins).length = ins.length := by unfold inVals; rw [List.length_map, List.length_zipIdx]
def SInv (c : Circ) (kvs : List (Key × Val)) (ov : Nat → Bool → Bool) (ins st : List Bool) (total : Nat) (cs : List Cell) (env : Env) : Prop := ∃ (m : Nat) (vals left : List Bool) (s6 s7 s8 s9 : Slot), env = [.sh c.v, .sh (.lst (ins.map bv)), .sh (.lst (st.map bv)), .sh (.dct kvs), .oL (vals.map bv), .oL (left.map bv), s6, s7, s8, s9, .un, .un] ∧
    GCells total m cs ∧ vals.length = m ∧ left.length = (latches cs).length ∧ runS ov cs vals left = runS ov c.cells (inVals ov ins) st ∧ m + cs.length ≤ 16777215
theorem settled_ok (c : Circ) (kvs : List (Key × Val)) (ov : Nat → Bool → Bool) (hk : Stk kvs ov) (ins st : List Bool) {total : Nat} (hc : GCells total c.n c.cells) (hn : ins.length = c.n) (hs : st.length = (latches c.cells).length) (hl : c.n + c.cells.length ≤ 16777215) :
    f_settled_values [c.v, .lst (ins.map bv), .lst (st.map bv), .dct kvs] = .ret (.lst ((runS ov c.cells (inVals ov ins) st).map bv)) := by
  refine defn_ret rfl ?_
  unfold m_settled_values
  have e1 : e_settled_values_1 (hide (startE 12 [c.v, .lst (ins.map bv), .lst (st.map bv), .dct kvs])) = .ok (.lst ((inVals ov ins).map bv)) := by
    unfold e_settled_values_1
    have hi : (iEnumV (eVar 1)) (hide (startE 12 [c.v, .lst (ins.map bv), .lst (st.map bv), .dct kvs])) = .ok (ins.zipIdx.map fun p => .tup [.int (p.2 : Nat), bv p.1]) := by
      rw [← enumL_map bv ins 0]; rfl
    rw [eComp_all (fun p : Bool × Nat => .tup [.int (p.2 : Nat), bv p.1]) (fun p => bv (ov p.2 p.1)) ins.zipIdx hi (by rw [List.length_zipIdx]; omega)]
    · unfold inVals; rw [List.map_map]; rfl
    · intro p _
      refine ⟨_, rfl, ?_⟩
      exact hk p.2 p.1
  simp only [Ok_seq]
  have o1 : sOwn 4 e_settled_values_1 (startE 12 [c.v, .lst (ins.map bv), .lst (st.map bv), .dct kvs]) = .next [.sh c.v, .sh (.lst (ins.map bv)), .sh (.lst (st.map bv)), .sh (.dct kvs), .oL ((inVals ov ins).map bv), .un, .un, .un, .un, .un, .un, .un] := by
    unfold sOwn; rw [e1]; rfl
  rw [o1, Ok_next]
  refine Then.mk ?_; unfold m_settled_values_1; simp! []
  refine Then.mk ?_
  unfold m_settled_values_2
  simp only [Ok_seq]
  unfold m_settled_values_c_F
  refine Ok_for (xs := c.cells.map Cell.v) (by simp! [circ_1]) ?_
  refine forL_ind Cell.v (SInv c kvs ov ins st total) ?_ ?_ c.cells _ ⟨c.n, inVals ov ins, st, _, _, _, _, rfl, hc, by rw [inVals_len, hn], hs, rfl, hl⟩
  · rintro x cs env ⟨m, vals, left, s6, s7, s8, s9, rfl, hg, hv, hle, hr, hb⟩
    refine ⟨_, rfl, ?_⟩
    cases hg with
    | cons g gs =>
      have fin : ∀ {R : Val → Prop} {B : Env → Prop} (b : Bool) (left' : List Bool), left'.length = (latches cs).length → runS ov cs (vals ++ [ov x.out b]) left' = runS ov c.cells (inVals ov ins) st →
          Then m_settled_values_c_1 (SInv c kvs ov ins st total cs) R B (SInv c kvs ov ins st total cs)
            [.sh c.v, .sh (.lst (ins.map bv)), .sh (.lst (st.map bv)), .sh (.dct kvs), .oL (vals.map bv), .oL (left'.map bv), .sh (.str x.k), .sh (.tup (x.ins.map iv)), .sh (iv x.out), .sh (bv b), .un, .un] := by
        intro R B b left' h1 h2
        refine Then.mk ?_
        unfold m_settled_values_c_1
        rw [List.length_cons] at hb
        have hg2 : (eGet2 (eVar 3) (eVar 8) (eVar 9)) (hide [.sh c.v, .sh (.lst (ins.map bv)), .sh (.lst (st.map bv)), .sh (.dct kvs), .oL (vals.map bv), .oL (left'.map bv), .sh (.str x.k), .sh (.tup (x.ins.map iv)), .sh (iv x.out), .sh (bv b), .un, .un]) = .ok (bv (ov x.out b)) := hk x.out b
        unfold sAppend
        show Ok (((eGet2 (eVar 3) (eVar 8) (eVar 9)) (hide [.sh c.v, .sh (.lst (ins.map bv)), .sh (.lst (st.map bv)), .sh (.dct kvs), .oL (vals.map bv), .oL (left'.map bv), .sh (.str x.k), .sh (.tup (x.ins.map iv)), .sh (iv x.out), .sh (bv b), .un, .un])).flow _ _) _ _ _ _
        rw [hg2, Res.flow_ok, if_pos (by rw [List.length_map]; omega), Ok_next]
        refine ⟨m + 1, vals ++ [ov x.out b], left', .sh (.str x.k), .sh (.tup (x.ins.map iv)), .sh (iv x.out), .sh (bv b), ?_, gs, by rw [List.length_append, hv]; rfl, h1, h2, by omega⟩
        rw [List.map_append]; rfl
      unfold m_settled_values_c_L
      by_cases hx : x.k = kLatch
      · have hlx : latches (x :: cs) = x :: latches cs := by unfold latches; rw [List.filter_cons, if_pos (by simp [hx])]
        rw [hlx, List.length_cons] at hle
        obtain ⟨b, left', rfl⟩ : ∃ b left', left = b :: left' := by cases left with | nil => simp at hle | cons b l => exact ⟨b, l, rfl⟩
        have s0 : smallI 0 = true := smallI_nat (n := 0) (by omega)
        have i0 : ixNat (left'.length + 1) 0 = some 0 := ixNat_0 _ (by omega)
        simp! [eq_latch, hx, sPopAtTo, popAt, s0, i0, List.length_map, List.eraseIdx]
        rw [hx] at fin
        refine ⟨fun _ => ⟨by decide, fin b left' (by simpa using hle) ?_⟩, fun h => absurd h (by decide)⟩
        rw [← hr]
        conv => rhs; unfold runS
        rw [if_pos hx]; rfl
      · have hlx : latches (x :: cs) = latches cs := by unfold latches; rw [List.filter_cons, if_neg (by simp [hx])]
        rw [hlx] at hle
        have hkx : x.k ∈ plainKinds := by rcases g.kind with h | h; exact absurd h hx; exact h
        have ar3 : x.ins.length ≤ 16777216 := by rw [g.ar]; unfold arity; split; omega; split; omega; split <;> omega
        have e2 : e_settled_values_2 [.sh c.v, .sh (.lst (ins.map bv)), .sh (.lst (st.map bv)), .sh (.dct kvs), .oL (vals.map bv), .oL (left.map bv), .sh (.str x.k), .sh (.tup (x.ins.map iv)), .sh (iv x.out), s9, .un, .un] = .ok (.lst ((x.ins.map fun i => vals.getD i false).map bv)) := by
          unfold e_settled_values_2
          rw [eComp_all iv (fun i => bv (vals.getD i false)) x.ins rfl ar3]
          · rw [List.map_map]; rfl
          · intro i hi
            refine ⟨_, rfl, ?_⟩
            have := getD_bv vals i (by rw [hv]; exact g.lt hx i hi)
            show Res.ofOpt (atI (vals.map bv) (i : Int)) = _
            rw [atI_nat, this]; rfl
        have cv := cell_value_ok x.k hkx (x.ins.map fun i => vals.getD i false) (by rw [List.length_map]; exact ar3)
        have hx' : decide (x.k = kLatch) = false := decide_eq_false hx
        have nb : ∀ b : Bool, (bv b).noLst = true := fun _ => rfl
        simp! [eq_latch, hx', e2, cv, nb]
        refine ⟨fun h => absurd h hx, fun _ => fin _ left hle ?_⟩
        rw [← hr]
        conv => rhs; unfold runS
        rw [if_neg hx]
  · rintro env ⟨m, vals, left, s6, s7, s8, s9, rfl, hg, hv, hle, hr, hb⟩
    have hr : vals = runS ov c.cells (inVals ov ins) st := hr
    refine Then.mk ?_; unfold m_settled_values_3; simp! []
    refine Then.mk ?_; unfold m_settled_values_4; simp! []
    rw [hr]
/-! the three functions of the program -/
theorem cell_values_ok (c : Circ) (hg : c.Good) (ins st : List Bool) (hn : ins.length = c.n) (hs : st.length = c.lat.length) : f_cell_values [c.v, .lst (ins.map bv), .lst (st.map bv)] = .ret (.lst ((runS (fun _ b => b) c.cells ins st).map bv)) := by
  have b1 := hg.n6
  have b2 := hg.c40
  have b3 := hg.l4
  have h1 := check_ok ins c.n (by rw [hn]) (by omega)
  have h2 := check_ok st (latches c.cells).length (by rw [hs, hg.lat]) (by omega)
  have h3 := latch_cells_ok c (by omega)
  have h4 := settled_ok c [] (fun _ b => b) stk_nil ins st hg.cells hn (by rw [hs, hg.lat]) (by omega)
  rw [inVals_id] at h4
  refine defn_ret rfl ?_
  unfold m_cell_values
  have h1' : f_check_bits [.lst (ins.map bv), iv c.n] = .ret .non := h1
  simp! [circ_0, h1']
  refine Then.mk ?_; unfold m_cell_values_1; simp! [h3, h2, List.length_map]
  refine Then.mk ?_; unfold m_cell_values_2; simp! [h4]
theorem cell_values_exc (c : Circ) (hg : c.Good) (us ws : List Int) (h : ¬ ((us.length : Int) = c.n ∧ (∀ w ∈ us, w = 0 ∨ w = 1) ∧ (ws.length : Int) = c.lat.length ∧ ∀ w ∈ ws, w = 0 ∨ w = 1)) : f_cell_values [c.v, .lst (us.map .int), .lst (ws.map .int)] = .exc badVals := by
  have b2 := hg.c40
  have h3 := latch_cells_ok c (by omega)
  have key : ∃ e, m_cell_values (startE 3 [c.v, .lst (us.map .int), .lst (ws.map .int)]) = .exc badVals e := by
    unfold m_cell_values sSeq sDrop
    by_cases h1 : (us.length : Int) = c.n ∧ ∀ w ∈ us, w = 0 ∨ w = 1
    · have hb : ∃ bs : List Bool, us = bs.map b2i := by
        refine ⟨us.map fun u => u == 1, ?_⟩
        rw [List.map_map]
        conv => lhs; rw [← List.map_id us]
        refine List.map_congr_left fun u hu => ?_
        rcases h1.2 u hu with rfl | rfl <;> rfl
      obtain ⟨bs, rfl⟩ := hb
      have q1 := check_ok bs c.n (by rw [← h1.1, List.length_map]) (by have := hg.n6; have := h1.1; rw [List.length_map] at this; omega)
      have q1' : f_check_bits [.lst (bs.map bv), iv c.n] = .ret .non := q1
      have q2 := check_exc ws (latches c.cells).length (fun z => h ⟨h1.1, h1.2, by rw [z.1, hg.lat], z.2⟩)
      have e1 : (eCall f_check_bits (aCons (eVar 1) (aCons (e2 vIx (eVar 0) (eC (.int 0))) aNil))) (startE 3 [c.v, .lst ((bs.map b2i).map .int), .lst (ws.map .int)]) = .ok .non := by
        rw [← bv_ints]
        simp! [circ_0, q1']
      rw [e1]
      simp only [Res.flow_ok, Flow.bind_next]
      unfold m_cell_values_1 sSeq sDrop
      have e2 : (eCall f_check_bits (aCons (eVar 2) (aCons (eArgs vLen (aCons (eCall f_latch_cells (aCons (eVar 0) aNil)) aNil)) aNil))) (startE 3 [c.v, .lst ((bs.map b2i).map .int), .lst (ws.map .int)]) = .exc badVals := by
        simp! [h3, q2, List.length_map]
      rw [e2]
      exact ⟨_, rfl⟩
    · have q1 := check_exc us c.n (fun z => h1 z)
      have q1' : f_check_bits [.lst (us.map .int), iv c.n] = .exc badVals := q1
      have e1 : (eCall f_check_bits (aCons (eVar 1) (aCons (e2 vIx (eVar 0) (eC (.int 0))) aNil))) (startE 3 [c.v, .lst (us.map .int), .lst (ws.map .int)]) = .exc badVals := by
        simp! [circ_0, q1']
      rw [e1]
      exact ⟨_, rfl⟩
  obtain ⟨e, he⟩ := key
  show (if [c.v, Val.lst (us.map .int), .lst (ws.map .int)].length = 3 then (match m_cell_values (startE 3 [c.v, .lst (us.map .int), .lst (ws.map .int)]) with
    | .next _ => DR.ret .non
    | .ret x _ => .ret x
    | .exc e _ => .exc e
    | _ => .bad) else .bad) = _
  rw [he]
  rfl
/-- the first statement raises -/
theorem defn_exc1 {k n : Nat} {i : Nat} {a : EX} {r : ST} {xs : List Val} {q : Exn} (hk : xs.length = k) (h : a (hide (startE n xs)) = .exc q) : defn k n (sSeq (sSet i a) r) xs = .exc q := by
  unfold defn
  rw [if_pos hk]
  have : sSeq (sSet i a) r (startE n xs) = .exc q (startE n xs) := by
    unfold sSeq sSet
    rw [h]
    rfl
  rw [this]
theorem outputs_exc (c : Circ) (hg : c.Good) (us ws : List Int) (h : ¬ ((us.length : Int) = c.n ∧ (∀ w ∈ us, w = 0 ∨ w = 1) ∧ (ws.length : Int) = c.lat.length ∧ ∀ w ∈ ws, w = 0 ∨ w = 1)) : f_circuit_outputs [c.v, .lst (us.map .int), .lst (ws.map .int)] = .exc badVals := by
  have q := cell_values_exc c hg us ws h
  exact defn_exc1 rfl (by simp! [q])
theorem next_exc (c : Circ) (hg : c.Good) (us ws : List Int) (h : ¬ ((us.length : Int) = c.n ∧ (∀ w ∈ us, w = 0 ∨ w = 1) ∧ (ws.length : Int) = c.lat.length ∧ ∀ w ∈ ws, w = 0 ∨ w = 1)) : f_circuit_next [c.v, .lst (us.map .int), .lst (ws.map .int)] = .exc badVals := by
  have q := cell_values_exc c hg us ws h
  exact defn_exc1 rfl (by simp! [q])
theorem outputs_ok (c : Circ) (hg : c.Good) (ins st : List Bool) (hn : ins.length = c.n) (hs : st.length = c.lat.length) : f_circuit_outputs [c.v, .lst (ins.map bv), .lst (st.map bv)] = .ret (.lst ((c.outs.map fun i => (runS (fun _ b => b) c.cells ins st).getD i false).map bv)) := by
  have q := cell_values_ok c hg ins st hn hs
  have b := hg.o6
  refine defn_ret rfl ?_
  unfold m_circuit_outputs
  simp! [q]
  refine Then.mk ?_
  unfold m_circuit_outputs_1 sRet
  have e : e_circuit_outputs_1 [.sh c.v, .sh (.lst (ins.map bv)), .sh (.lst (st.map bv)), .sh (.lst ((runS (fun _ b => b) c.cells ins st).map bv)), .un] = .ok (.lst (c.outs.map fun i => bv ((runS (fun _ b => b) c.cells ins st).getD i false))) := by
    unfold e_circuit_outputs_1
    refine eComp_all iv _ c.outs rfl (by omega) fun i hi => ⟨_, rfl, ?_⟩
    have := getD_bv (runS (fun _ b => b) c.cells ins st) i (by rw [runS_len, hn]; exact hg.outs i hi)
    show Res.ofOpt (atI _ (i : Int)) = _
    rw [atI_nat, this]; rfl
  rw [e]
  simp! [List.map_map]
  rfl
theorem GCells.tot {total : Nat} : ∀ {m : Nat} {cs : List Cell}, GCells total m cs → ∀ c ∈ cs, (∀ i ∈ c.ins, i < total) ∧ c.ins.length = arity c.k
  | _, _, .nil _, c, h => by cases h
  | _, _, .cons g gs, c, h => by
    rcases List.mem_cons.mp h with rfl | h
    · exact ⟨g.tot, g.ar⟩
    · exact GCells.tot gs c h
theorem lat_in {total m : Nat} {cs : List Cell} (g : GCells total m cs) (c : Cell) (h : c ∈ latches cs) : ∃ i, c.ins = [i] ∧ i < total := by
  unfold latches at h
  rw [List.mem_filter] at h
  obtain ⟨h1, h2⟩ := GCells.tot g c h.1
  have hk : c.k = kLatch := by simpa using h.2
  rw [hk] at h2
  have h2 : c.ins.length = 1 := h2
  match hi : c.ins, h2 with
  | [i], _ => exact ⟨i, rfl, h1 i (by rw [hi]; exact List.mem_cons_self)⟩
def nexts (c : Circ) (vals : List Bool) : List Bool := (latches c.cells).map fun x => vals.getD (x.ins.headD 0) false
theorem next_ok (c : Circ) (hg : c.Good) (ins st : List Bool) (hn : ins.length = c.n) (hs : st.length = c.lat.length) : f_circuit_next [c.v, .lst (ins.map bv), .lst (st.map bv)] = .ret (.lst ((nexts c (runS (fun _ b => b) c.cells ins st)).map bv)) := by
  have q := cell_values_ok c hg ins st hn hs
  have b := hg.c40
  have h3 := latch_cells_ok c (by omega)
  refine defn_ret rfl ?_
  unfold m_circuit_next
  simp! [q]
  refine Then.mk ?_
  unfold m_circuit_next_1 sRet
  have e : e_circuit_next_1 [.sh c.v, .sh (.lst (ins.map bv)), .sh (.lst (st.map bv)), .sh (.lst ((runS (fun _ b => b) c.cells ins st).map bv)), .un] = .ok (.lst ((latches c.cells).map fun x => bv ((runS (fun _ b => b) c.cells ins st).getD (x.ins.headD 0) false))) := by
    unfold e_circuit_next_1
    refine eComp_all Cell.v _ (latches c.cells) (by simp! [h3]) (by unfold latches; exact Nat.le_trans (List.length_filter_le _ _) (by omega)) fun x hx => ⟨_, rfl, ?_⟩
    obtain ⟨i, hi, hlt⟩ := lat_in hg.cells x hx
    have := getD_bv (runS (fun _ b => b) c.cells ins st) i (by rw [runS_len, hn]; exact hlt)
    show ((vIx x.v (.int 1)).bind fun y => vIx y (.int 0)).bind (fun y => vIx (.lst ((runS (fun _ b => b) c.cells ins st).map bv)) y) = _
    rw [cell_1, hi]
    show Res.ofOpt (atI _ (i : Int)) = _
    rw [atI_nat, this]; rfl
  rw [e]
  unfold nexts
  simp! [List.map_map]
  rfl
end Lib
end Vm
end

/-! Circuits: what the laws' generator makes is good. -/
noncomputable section
namespace Vm
local macro_rules | `(tactic| simp! [$ts,*]) => `(tactic| simp only [Ok_seq, sSet, sSetN, sOwn, sOwnN, sAppend, sAppendN, sFreeze, sForget, sIf, sRet, sRetN, sNext, sPut, sDrop, sAug, sOn, sItem, sItemN, itemPut, sBreak, sCont, hide, Slot.hide, eVar, eC, e1, e2, eArgs, eAnd, eOr, eNot, eIf, eChain, eCall, eCut, partOf, aNil, aCons, asBl, bVal, bTruth, bAnd, bOr, bNot, bYes, truth, vAdd_int, vAdd_lst, vAdd_tup, vSub, vMul_int, vDiv_int, vMod_int, vPow18, vPow12, vPow11, vPow9, vPow6, vNeg, vLt, vLe, vGt, vGe, vEq, vNe, eqR_int, eqR_bl, eqR_str, vIsi, Val.isOb, vTup, vLst, vLen_lst, vLen_tup, vInt, vIs, vIsNot, vIx_lst, vIx_tup, vIx_dct, vListOf, vTupOf, vIpAdd, vMax2, vMax3, vMin2, Val.ty, Ty.sub, noLst_int, noLst_bl, noLst_str, noLst_non, noLst_tup, noLsts_nil, noLsts_cons, noLsts_ints, pName, pTup, pTupL, putAll, iSeq, itemsOf, iRange1, iRange2, DR.res, Res.ofOpt_some, Res.ofOpt_none, Res.bind_ok, Res.bind_exc, Res.bind_bad, Res.nx_ok, Res.flow_ok, Res.flow_bad, Flow.bind_next, Flow.bind_ret, Flow.bind_brk, Flow.bind_cont, Flow.bind_bad, Ok_next, Ok_ret, Ok_brk, Ok_cont, Ok_bind, Ok_cond, Ok_ite, Ok_ofOpt, flow_ite, bind_ite, nx_ite', flow_cond, bind_cond, cond_andV, cond_orV, cond_and, cond_or, atI_nat, atI_0, atI_1, atI_lit, startE, List.map_cons, List.map_nil, List.length_cons, List.length_nil, List.getElem?_cons_zero, List.getElem?_cons_succ, List.set_cons_zero, List.set_cons_succ, List.set_nil, List.replicate, List.append_nil, List.cons_append, List.nil_append, Nat.sub_self, Nat.reduceAdd, Nat.reduceSub, Nat.reduceLT, Nat.reduceLeDiff, Nat.reduceEqDiff, Int.reduceLE, Int.reduceLT, Int.reduceToNat, Int.reducePow, Int.reduceMul, Int.reduceAdd, Int.reduceSub, Int.reduceNeg, Int.cast_ofNat_Int, if_true, if_false, ↓reduceIte, reduceCtorEq, beq_self_eq_true, and_true, true_and, decide_eq_true_eq, decide_eq_false_iff_not, Bool.not_eq_true', Bool.not_eq_false', Bool.and_true, Bool.true_and, Bool.or_true, Bool.and_false, Bool.or_false, Bool.false_or, Bool.true_or, Bool.false_and, Bool.not_true, Bool.not_false, beq_iff_eq, forall_const, false_implies, Option.map_some, decide_true, decide_false, cond_true, cond_false, $ts,*])
namespace Lib
open PySem
theorem parts_k (c : Int) (sizes : List Int) (hs : ∀ n ∈ sizes, 0 < n ∧ n < 18446744073709551616) (hl : sizes.length ≤ 100) : ∃ ps : List Int, f__law_parts [.int c, .lst (sizes.map .int)] = .ret (.lst (ps.map .int)) ∧ Parts ps sizes := by
  obtain ⟨y, h, ps, rfl, hp⟩ := parts_ok c sizes hs hl
  exact ⟨ps, h, hp⟩
theorem cell_k (ns : List Int) (k : Nat) : ∃ c, f__law_cell [.lst (ns.map .int), .int k] = .ret (.int c) := cell_ok ns k
theorem GCells.snoc {total : Nat} : ∀ {m : Nat} {cs : List Cell} {c : Cell}, GCells total m cs → GCell total (m + cs.length) c → GCells total m (cs ++ [c])
  | m, [], c, .nil _, g => .cons g (.nil _)
  | m, x :: cs, c, .cons h hs, g => .cons h (GCells.snoc hs (by rw [List.length_cons] at g; rw [show m + 1 + cs.length = m + (cs.length + 1) by omega]; exact g))
theorem iv_get (xs : List Nat) (i : Nat) (h : i < xs.length) : (xs.map iv)[i]? = some (iv xs[i]) := by
  rw [List.getElem?_map, List.getElem?_eq_getElem h]; rfl
theorem eraseIdx_map {α β : Type} (f : α → β) : ∀ (xs : List α) (i : Nat), (xs.map f).eraseIdx i = (xs.eraseIdx i).map f
  | [], _ => rfl
  | x :: xs, 0 => rfl
  | x :: xs, i + 1 => by
    show f x :: (xs.map f).eraseIdx i = f x :: (xs.eraseIdx i).map f
    rw [eraseIdx_map f xs i]
theorem erase_perm {α : Type} : ∀ (l : List α) (i : Nat) (h : i < l.length), (l[i] :: l.eraseIdx i).Perm l
  | x :: l, 0, h => List.Perm.refl _
  | x :: l, i + 1, h => by
    have h' : i < l.length := by simpa using h
    show (l[i] :: x :: l.eraseIdx i).Perm (x :: l)
    exact (List.Perm.swap x _ _).trans ((erase_perm l i (by simpa using h)).cons x)
theorem drawn_ok (ps : List Int) (count nets : Nat) (h : count ≤ nets) (hp : count + 1 ≤ ps.length) (hb : nets ≤ 16777215) : ∃ ds : List Nat, f__law_drawn [.lst (ps.map .int), .int count, .int nets] = .ret (.tup (ds.map iv)) ∧ ds.length = count ∧ ds.Nodup ∧ ∀ i ∈ ds, i < nets := by
  suffices hh : ∃ y, f__law_drawn [.lst (ps.map .int), .int count, .int nets] = .ret y ∧ ∃ ds : List Nat, y = .tup (ds.map iv) ∧ ds.length = count ∧ ds.Nodup ∧ ∀ i ∈ ds, i < nets by
    obtain ⟨y, h, ds, rfl, h2⟩ := hh; exact ⟨ds, h, h2⟩
  refine defn_some rfl ?_
  unfold m__law_drawn
  have r0 : rangeV .lst 0 (nets : Int) = .ok (.lst ((List.range nets).map iv)) := by
    unfold rangeV
    rw [if_pos]
    · rw [Int.sub_zero, Int.toNat_natCast]
      unfold rangeL
      have : (fun (i : Nat) => Val.int (0 + (i : Int))) = iv := by funext i; rw [Int.zero_add]; rfl
      rw [this]
    · have a := smallI_nat (n := 0) (by omega)
      have b := smallI_nat (n := nets) (by omega)
      have a' : smallI 0 = true := a
      rw [a', b]
      exact big_iff.mpr (by omega)
  simp! [eRange1, r0]
  refine Then.mk ?_; unfold m__law_drawn_1; simp! []
  refine Then.mk ?_
  unfold m__law_drawn_2
  simp only [Ok_seq]
  unfold m__law_drawn_c_F
  refine Ok_for (xs := rangeL 0 count) (range1_ok (by simp! []) (by omega)) ?_
  refine forL_ok _ (fun i env => ∃ (left dr : List Nat) (s5 : Slot), env = [.sh (.lst (ps.map .int)), .sh (.int count), .sh (.int nets), .oL (left.map iv), .oL (dr.map iv), s5] ∧ left.length + i = nets ∧ dr.length = i ∧ (dr ++ left).Nodup ∧ ∀ x ∈ dr ++ left, x < nets) _
    ⟨List.range nets, [], _, rfl, by simp, rfl, by simpa using List.nodup_range, by simp⟩ ?_ ?_
  · rintro i hi env ⟨left, dr, s5, rfl, h1, h2, h3, h4⟩
    rw [range_len] at hi
    rw [range_get, Int.zero_add]
    refine ⟨_, rfl, ?_⟩
    have hlp : 0 < left.length := by omega
    have hpi : (ps.map Val.int)[i + 1]? = some (.int (ps[i + 1]'(by omega))) := map_get? _ _ _ (by omega)
    have hix : (1 : Int) + (i : Int) = ((i + 1 : Nat) : Int) := by omega
    have m0 := Int.emod_nonneg (ps[i + 1]'(by omega)) (show (left.length : Int) ≠ 0 by omega)
    have m1 := Int.emod_lt_of_pos (ps[i + 1]'(by omega)) (show (0 : Int) < left.length by omega)
    obtain ⟨m, hm⟩ : ∃ m : Nat, (ps[i + 1]'(by omega)) % (left.length : Int) = m := ⟨_, (Int.toNat_of_nonneg m0).symm⟩
    rw [hm] at m1
    have m1 : m < left.length := by omega
    unfold m__law_drawn_c_L sAppPop
    have hb2 : (e2 vMod (eArgs vInt (aCons (e2 vIx (eVar 0) (e2 vAdd (eC (.int 1)) (eVar 5))) aNil)) (eArgs vLen (aCons (eVar 3) aNil))) [.sh (.lst (ps.map .int)), .sh (.int count), .sh (.int nets), .oL (left.map iv), .oL (dr.map iv), .sh (.int (i : Nat))] = .ok (.int m) := by
      simp! [hix, hpi, List.length_map, hm]
      rw [if_pos (by omega)]
    show Ok (((e2 vMod (eArgs vInt (aCons (e2 vIx (eVar 0) (e2 vAdd (eC (.int 1)) (eVar 5))) aNil)) (eArgs vLen (aCons (eVar 3) aNil))) [.sh (.lst (ps.map .int)), .sh (.int count), .sh (.int nets), .oL (left.map iv), .oL (dr.map iv), .sh (.int (i : Nat))]).flow _ _) _ _ _ _
    rw [hb2]
    simp only [Res.flow_ok]
    unfold popAt
    have sm := smallI_nat (n := m) (by omega)
    have ix : ixNat (left.map iv).length (m : Int) = some m := ixNat_nat _ _ (by rw [List.length_map]; exact m1)
    have gm := iv_get left m m1
    show Ok (if smallI (m : Int) = true then (match ixNat (left.map iv).length (m : Int) with
      | some m => (match (left.map iv)[m]? with
        | some x => _
        | none => .bad)
      | none => .bad) else .bad) _ _ _ _
    rw [if_pos sm, ix]
    show Ok (match (left.map iv)[m]? with
        | some x => _
        | none => .bad) _ _ _ _
    rw [gm]
    show Ok (if (4 : Nat) ≠ 3 ∧ (dr.map iv).length < 16777216 then _ else _) _ _ _ _
    rw [if_pos ⟨by decide, by rw [List.length_map]; omega⟩, Ok_next]
    have pm : (left[m] :: left.eraseIdx m).Perm left := erase_perm left m m1
    have pp : (dr ++ [left[m]] ++ left.eraseIdx m).Perm (dr ++ left) := by
      rw [List.append_assoc]
      exact pm.append_left dr
    refine ⟨left.eraseIdx m, dr ++ [left[m]], .sh (.int (i : Nat)), ?_, ?_, by rw [List.length_append, h2]; rfl, pp.nodup_iff.mpr h3, fun x hx => h4 x (pp.mem_iff.mp hx)⟩
    · rw [eraseIdx_map, List.map_append]; rfl
    · rw [List.length_eraseIdx, if_pos m1]; omega
  · rintro env ⟨left, dr, s5, rfl, h1, h2, h3, h4⟩
    rw [range_len] at h2
    refine Then.mk ?_; unfold m__law_drawn_3; simp! []
    refine Then.mk ?_; unfold m__law_drawn_4; simp! []
    refine ⟨dr, rfl, h2, (List.nodup_append.mp h3).1, fun x hx => h4 x (List.mem_append_left _ hx)⟩
def allKinds : List Str := [kLatch, kNot, kNand2, kNand3, kNor2, kNor3, kTie0, kTie1]
theorem kinds16 (p : Int) (h : 0 ≤ p ∧ p < 16) : ∃ k ∈ allKinds, atI [Val.str "not", .str "not", .str "nand2", .str "nand2", .str "nand2", .str "nand3", .str "nand3", .str "nor2", .str "nor2", .str "nor2", .str "nor3", .str "nor3", .str "latch", .str "latch", .str "tie0", .str "tie1"] p = some (.str k) := by
  have : p = 0 ∨ p = 1 ∨ p = 2 ∨ p = 3 ∨ p = 4 ∨ p = 5 ∨ p = 6 ∨ p = 7 ∨ p = 8 ∨ p = 9 ∨ p = 10 ∨ p = 11 ∨ p = 12 ∨ p = 13 ∨ p = 14 ∨ p = 15 := by omega
  rcases this with rfl | rfl | rfl | rfl | rfl | rfl | rfl | rfl | rfl | rfl | rfl | rfl | rfl | rfl | rfl | rfl
  · exact ⟨kNot, by decide, rfl⟩
  · exact ⟨kNot, by decide, rfl⟩
  · exact ⟨kNand2, by decide, rfl⟩
  · exact ⟨kNand2, by decide, rfl⟩
  · exact ⟨kNand2, by decide, rfl⟩
  · exact ⟨kNand3, by decide, rfl⟩
  · exact ⟨kNand3, by decide, rfl⟩
  · exact ⟨kNor2, by decide, rfl⟩
  · exact ⟨kNor2, by decide, rfl⟩
  · exact ⟨kNor2, by decide, rfl⟩
  · exact ⟨kNor3, by decide, rfl⟩
  · exact ⟨kNor3, by decide, rfl⟩
  · exact ⟨kLatch, by decide, rfl⟩
  · exact ⟨kLatch, by decide, rfl⟩
  · exact ⟨kTie0, by decide, rfl⟩
  · exact ⟨kTie1, by decide, rfl⟩
def KindP (k : Str) (nets lats : Nat) : Prop := (k = kLatch ∧ lats ≠ 4) ∨ (k ∈ plainKinds ∧ arity k ≤ nets)
abbrev KE (ps : List Int) (nets lats : Nat) (x3 : Val) (k : Str) : Env := [.sh (.lst (ps.map .int)), .sh (.int nets), .sh (.int lats), .sh x3, .sh (.str k)]
theorem tail_big {N B T : Env → Prop} {ps : List Int} {nets lats : Nat} {x3 : Val} {k : Str} {d : Str} {n : Nat} (hk : k ∈ plainKinds) (ha : arity k = n) (hn : n = 2 ∨ n = 3) (hm : vInS (.str k) (.lst [.str "nand2", .str "nor2", .str "nand3", .str "nor3"]) = .ok (.bl true)) (h1 : vIx (.str k) (.int (-1)) = .ok (.str d)) (h2 : digitOf d = some (n : Int)) (hp : 0 < nets) :
    Ok (m__law_kind_4 (KE ps nets lats x3 k)) N (fun y => ∃ k, y = .str k ∧ KindP k nets lats) B T := by
  have hm' : vIn (.str k) (.lst [.str "nand2", .str "nor2", .str "nand3", .str "nor3"]) = .ok (.bl true) := hm
  unfold m__law_kind_4
  simp! [hm', h1, h2]
  refine ⟨fun hlt => ?_, fun hge => ?_⟩
  · have : nets = 1 ∨ nets = 2 := by omega
    rcases this with rfl | rfl
    · refine ⟨.str "not", rfl, kNot, rfl, .inr ⟨by decide, by decide⟩⟩
    · refine ⟨.str "nand2", rfl, kNand2, rfl, .inr ⟨by decide, by decide⟩⟩
  · refine Then.mk ?_; unfold m__law_kind_5; simp! []
    exact ⟨k, rfl, .inr ⟨hk, by omega⟩⟩
theorem tail_small {N B T : Env → Prop} {ps : List Int} {nets lats : Nat} {x3 : Val} {k : Str} (hm : vInS (.str k) (.lst [.str "nand2", .str "nor2", .str "nand3", .str "nor3"]) = .ok (.bl false)) (hP : KindP k nets lats) :
    Ok (m__law_kind_4 (KE ps nets lats x3 k)) N (fun y => ∃ k, y = .str k ∧ KindP k nets lats) B T := by
  have hm' : vIn (.str k) (.lst [.str "nand2", .str "nor2", .str "nand3", .str "nor3"]) = .ok (.bl false) := hm
  unfold m__law_kind_4
  simp! [hm']
  refine Then.mk ?_; unfold m__law_kind_5; simp! []
  exact ⟨k, rfl, hP⟩
theorem kind3 {N B T : Env → Prop} {ps : List Int} (hp : 2 ≤ ps.length) {nets lats : Nat} {x3 : Val} {k : Str} (hk : k ∈ allKinds) (hl : k = kLatch → lats ≠ 4) :
    Ok (m__law_kind_3 (KE ps nets lats x3 k)) N (fun y => ∃ k, y = .str k ∧ KindP k nets lats) B T := by
  have p1 : (ps.map Val.int)[1]? = some (.int (ps[1]'(by omega))) := map_get? _ _ 1 (by omega)
  have m0 := Int.emod_nonneg (ps[1]'(by omega)) (show (2 : Int) ≠ 0 by omega)
  have m1 := Int.emod_lt_of_pos (ps[1]'(by omega)) (show (0 : Int) < 2 by omega)
  have tie : ∃ k, atI [Val.str "tie0", .str "tie1"] ((ps[1]'(by omega)) % 2) = some (.str k) ∧ KindP k nets lats := by
    have : (ps[1]'(by omega)) % 2 = 0 ∨ (ps[1]'(by omega)) % 2 = 1 := by omega
    rcases this with h | h
    · rw [h]; exact ⟨kTie0, rfl, .inr ⟨by decide, Nat.zero_le _⟩⟩
    · rw [h]; exact ⟨kTie1, rfl, .inr ⟨by decide, Nat.zero_le _⟩⟩
  obtain ⟨kt, ht, hP⟩ := tie
  unfold m__law_kind_3
  by_cases h0 : nets = 0
  · subst h0
    by_cases hx : k = kLatch
    · subst hx
      have e : (kLatch == Str.ofString "latch") = true := rfl
      simp! [e, Int.reduceBEq]
      exact Then.mk (tail_small (k := kLatch) rfl (.inl ⟨rfl, hl rfl⟩))
    · have e : (k == Str.ofString "latch") = false := by rw [beq_eq_false_iff_ne]; exact hx
      simp! [e, p1, ht]
      exact ⟨kt, rfl, hP⟩
  · have e0 : ((nets : Int) == 0) = false := by rw [beq_eq_false_iff_ne]; omega
    have goal : Then m__law_kind_4 N (fun y => ∃ k, y = .str k ∧ KindP k nets lats) B T (KE ps nets lats x3 k) := by
      refine Then.mk ?_
      simp only [allKinds, List.mem_cons, List.not_mem_nil, or_false] at hk
      rcases hk with rfl | rfl | rfl | rfl | rfl | rfl | rfl | rfl
      · exact tail_small rfl (.inl ⟨rfl, hl rfl⟩)
      · exact tail_small rfl (.inr ⟨by decide, by show 1 ≤ nets; omega⟩)
      · exact tail_big (d := "2") (n := 2) (by decide) rfl (by omega) rfl rfl rfl (by omega)
      · exact tail_big (d := "3") (n := 3) (by decide) rfl (by omega) rfl rfl rfl (by omega)
      · exact tail_big (d := "2") (n := 2) (by decide) rfl (by omega) rfl rfl rfl (by omega)
      · exact tail_big (d := "3") (n := 3) (by decide) rfl (by omega) rfl rfl rfl (by omega)
      · exact tail_small rfl (.inr ⟨by decide, Nat.zero_le _⟩)
      · exact tail_small rfl (.inr ⟨by decide, Nat.zero_le _⟩)
    simp! [e0]
    exact goal
theorem kind_ok (ps : List Int) (hp : Parts ps [16, 100, 100, 100]) (nets lats : Nat) : ∃ k, f__law_kind [.lst (ps.map .int), .int nets, .int lats] = .ret (.str k) ∧ KindP k nets lats := by
  suffices hh : ∃ y, f__law_kind [.lst (ps.map .int), .int nets, .int lats] = .ret y ∧ ∃ k, y = .str k ∧ KindP k nets lats by
    obtain ⟨y, h, k, rfl, h2⟩ := hh; exact ⟨k, h, h2⟩
  refine defn_some rfl ?_
  have hl : ps.length = 4 := hp.1
  have p0 : (ps.map Val.int)[0]? = some (.int (ps[0]'(by omega))) := map_get? _ _ 0 (by omega)
  obtain ⟨k0, hk0, e0⟩ := kinds16 (ps[0]'(by omega)) (hp.2 0 (by omega) (by simp))
  unfold m__law_kind
  simp! []
  refine Then.mk ?_; unfold m__law_kind_1; simp! [p0, e0]
  refine Then.mk ?_
  unfold m__law_kind_2
  by_cases hx : k0 = kLatch ∧ lats = 4
  · obtain ⟨rfl, rfl⟩ := hx
    have e : (kLatch == Str.ofString "latch") = true := rfl
    simp! [e, Int.reduceBEq]
    exact Then.mk (kind3 (k := kNot) (nets := nets) (lats := 4) (by omega) (by decide) (fun h => absurd h (by decide)))
  · simp! []
    refine ⟨fun h => absurd ⟨?_, ?_⟩ hx, fun _ => Then.mk (kind3 (by omega) hk0 fun h1 h2 => hx ⟨h1, h2⟩)⟩
    · rw [Bool.and_eq_true, beq_iff_eq, beq_iff_eq] at h; exact h.1
    · rw [Bool.and_eq_true, beq_iff_eq, beq_iff_eq] at h; omega
/-! the loop over the cells -/
abbrev CE0 (ns : List Int) (most : Int) (hd : List Int) (cs : List Cell) (lats total : Nat) (s6 s8 s9 : Slot) : Env := [.sh (.lst (ns.map .int)), .sh (.int most), .sh (.lst (hd.map .int)), .oL (cs.map Cell.v), .sh (.int lats), .sh (.int total), s6, .un, s8, s9, .un]
def CInv (ns : List Int) (most : Int) (hd : List Int) (n total i : Nat) (env : Env) : Prop := ∃ (cs : List Cell) (lats : Nat) (s6 s8 s9 : Slot), env = CE0 ns most hd cs lats total s6 s8 s9 ∧ cs.length = i ∧ GCells total n cs ∧ (latches cs).length = lats ∧ lats ≤ 4
theorem latches_snoc (cs : List Cell) (c : Cell) : (latches (cs ++ [c])).length = (latches cs).length + if c.k = kLatch then 1 else 0 := by
  unfold latches
  rw [List.filter_append, List.length_append]
  congr 1
  by_cases h : c.k = kLatch
  · rw [if_pos h, List.filter_cons, if_pos (by simp [h])]; rfl
  · rw [if_neg h, List.filter_cons, if_neg (by simp [h])]; rfl
theorem arity3 (k : Str) : arity k ≤ 3 := by unfold arity; split; omega; split; omega; split <;> omega
theorem cell_step {R : Val → Prop} {B : Env → Prop} {ns : List Int} {most : Int} {hd : List Int} {n total i lats : Nat} {cs : List Cell} {ps : List Int} {k : Str} (hi : i < total - n) (hn : n ≤ total) (ht : total ≤ 46) (hc : cs.length = i) (hg : GCells total n cs) (hl : (latches cs).length = lats) (h4 : lats ≤ 4) (hp : ps.length = 4) (hk : KindP k (n + i) lats) :
    Ok (m__law_circuit7_e_2 (CE0 ns most hd cs lats total (.sh (.int ((n : Int) + (i : Int)))) (.sh (.lst (ps.map .int))) (.sh (.str k)))) (CInv ns most hd n total (i + 1)) R B (CInv ns most hd n total (i + 1)) := by
  have hcast : ((n : Int) + (i : Int)) = ((n + i : Nat) : Int) := by omega
  rw [hcast]
  have fin : ∀ (ins : List Nat) (lats' : Nat) (s6 s8 s9 : Slot), GCell total (n + i) ⟨k, ins, n + i⟩ → lats' = lats + (if k = kLatch then 1 else 0) → lats' ≤ 4 → ∀ env, env = CE0 ns most hd (cs ++ [⟨k, ins, n + i⟩]) lats' total s6 s8 s9 → CInv ns most hd n total (i + 1) env := by
    intro ins lats' s6 s8 s9 g e h env he
    refine ⟨_, lats', s6, s8, s9, he, by rw [List.length_append, hc]; rfl, GCells.snoc hg (by rw [hc]; exact g), ?_, h⟩
    rw [latches_snoc, hl, e]
  have lcs : (cs.map Cell.v).length < 16777216 := by rw [List.length_map]; omega
  have lcs' : cs.length < 16777216 := by omega
  unfold m__law_circuit7_e_2
  rcases hk with ⟨rfl, h4'⟩ | ⟨hk, ha⟩
  · obtain ⟨ds, e1, d1, d2, d3⟩ := drawn_ok ps 1 total (by omega) (by omega) (by omega)
    have e1' : f__law_drawn [.lst (ps.map .int), .int 1, .int total] = .ret (.tup (ds.map iv)) := e1
    have q : (kLatch == Str.ofString "latch") = true := rfl
    simp! [CE0, q]
    refine Then.mk ?_; unfold m__law_circuit7_ec_1; simp! [e1', List.length_map, lcs']
    refine fin ds (lats + 1) (.sh (.int (n + i : Nat))) (.sh (.lst (ps.map .int))) (.sh (.str kLatch)) ⟨.inl rfl, d1, rfl, fun h => absurd rfl h, d3, d2⟩ (by rw [if_pos rfl]) (by omega) _ ?_
    unfold CE0
    rw [List.map_append]; rfl
  · simp only [plainKinds, List.mem_cons, List.not_mem_nil, or_false] at hk
    have small : ∀ k' : Str, k = k' → (k' == Str.ofString "latch") = false → k' ∈ plainKinds → k' ≠ kLatch → GCells total n cs → True := fun _ _ _ _ _ _ => trivial
    have big : ∀ (d : Str) (m : Nat), k ∈ plainKinds → k ≠ kLatch → (k == Str.ofString "latch") = false → (k == Str.ofString "not") = false → vInS (.str k) (.lst [.str "tie0", .str "tie1"]) = .ok (.bl false) → vIx (.str k) (.int (-1)) = .ok (.str d) → digitOf d = some (m : Int) → arity k = m → m ≤ 3 →
        Ok (m__law_circuit7_e_2 (CE0 ns most hd cs lats total (.sh (.int (n + i : Nat))) (.sh (.lst (ps.map .int))) (.sh (.str k)))) (CInv ns most hd n total (i + 1)) R B (CInv ns most hd n total (i + 1)) := by
      intro d m hkp hne q1 q2 q3 q4 q5 q6 q7
      obtain ⟨ds, e1, d1, d2, d3⟩ := drawn_ok ps m (n + i) (by omega) (by omega) (by omega)
      have q3' : vIn (.str k) (.lst [.str "tie0", .str "tie1"]) = .ok (.bl false) := q3
      have q1' : (k = Str.ofString "latch") = False := eq_false (by simpa using q1)
      have q2' : (k = Str.ofString "not") = False := eq_false (by simpa using q2)
      unfold m__law_circuit7_e_2
      simp! [CE0, q1, q1', q2, q2', q3', q4, q5, e1, List.length_map, lcs']
      refine fin ds lats (.sh (.int (n + i : Nat))) (.sh (.lst (ps.map .int))) (.sh (.str k)) ⟨.inr hkp, by rw [d1, q6], rfl, fun _ => d3, fun x hx => by have := d3 x hx; omega, d2⟩ (by rw [if_neg hne]; rfl) h4 _ ?_
      unfold CE0
      rw [List.map_append]; rfl
    have tie : ∀ _ : k = kTie0 ∨ k = kTie1,
        Ok (m__law_circuit7_e_2 (CE0 ns most hd cs lats total (.sh (.int (n + i : Nat))) (.sh (.lst (ps.map .int))) (.sh (.str k)))) (CInv ns most hd n total (i + 1)) R B (CInv ns most hd n total (i + 1)) := by
      intro hk
      have hne : k ≠ kLatch := by rcases hk with rfl | rfl <;> decide
      have hkp : k ∈ plainKinds := by rcases hk with rfl | rfl <;> decide
      have q1 : (k == Str.ofString "latch") = false := by rcases hk with rfl | rfl <;> rfl
      have q1' : (k = Str.ofString "latch") = False := eq_false (by simpa using q1)
      have q3' : vIn (.str k) (.lst [.str "tie0", .str "tie1"]) = .ok (.bl true) := by rcases hk with rfl | rfl <;> rfl
      have har : 0 = arity k := by rcases hk with rfl | rfl <;> rfl
      unfold m__law_circuit7_e_2
      simp! [CE0, q1, q1', q3', List.length_map, lcs']
      refine fin [] lats (.sh (.int (n + i : Nat))) (.sh (.lst (ps.map .int))) (.sh (.str k)) ⟨.inr hkp, har, rfl, fun _ x hx => (nomatch hx), fun x hx => (nomatch hx), List.nodup_nil⟩ (by rw [if_neg hne]; rfl) h4 _ ?_
      unfold CE0
      rw [List.map_append]; rfl
    have not : k = kNot →
        Ok (m__law_circuit7_e_2 (CE0 ns most hd cs lats total (.sh (.int (n + i : Nat))) (.sh (.lst (ps.map .int))) (.sh (.str k)))) (CInv ns most hd n total (i + 1)) R B (CInv ns most hd n total (i + 1)) := by
      rintro rfl
      have ha : 1 ≤ n + i := ha
      obtain ⟨ds, e1, d1, d2, d3⟩ := drawn_ok ps 1 (n + i) ha (by omega) (by omega)
      have e1' : f__law_drawn [.lst (ps.map .int), .int 1, .int (n + i : Nat)] = .ret (.tup (ds.map iv)) := e1
      have q1 : (kNot == Str.ofString "latch") = false := rfl
      have q1' : (kNot = Str.ofString "latch") = False := eq_false (by decide)
      have q2 : (kNot == Str.ofString "not") = true := rfl
      have q3' : vIn (.str kNot) (.lst [.str "tie0", .str "tie1"]) = .ok (.bl false) := rfl
      unfold m__law_circuit7_e_2
      simp! [CE0, q1, q1', q2, q3', e1', List.length_map, lcs']
      refine fin ds lats (.sh (.int (n + i : Nat))) (.sh (.lst (ps.map .int))) (.sh (.str kNot)) ⟨.inr (show kNot ∈ plainKinds by decide), d1, rfl, fun _ => d3, fun x hx => by have := d3 x hx; omega, d2⟩ (by rw [if_neg (by decide)]; rfl) h4 _ ?_
      unfold CE0
      rw [List.map_append]; rfl
    have back := @big
    unfold m__law_circuit7_e_2 at big tie not
    rcases hk with rfl | rfl | rfl | rfl | rfl | rfl | rfl
    · exact not rfl
    · exact big "2" 2 (by decide) (by decide) rfl rfl rfl rfl rfl rfl (by omega)
    · exact big "3" 3 (by decide) (by decide) rfl rfl rfl rfl rfl rfl (by omega)
    · exact big "2" 2 (by decide) (by decide) rfl rfl rfl rfl rfl rfl (by omega)
    · exact big "3" 3 (by decide) (by decide) rfl rfl rfl rfl rfl rfl (by omega)
    · exact tie (.inl rfl)
    · exact tie (.inr rfl)
theorem circ_rest {ns : List Int} (hns : ns.length ≤ 63) (most : Nat) (h1 : 1 ≤ most) (h40 : most ≤ 40) (n h6 h100 h100' : Nat) (hn : n ≤ 6) (hh : h6 < 6) (hb : h100' < 100) {N B T : Env → Prop} :
    Ok (m__law_circuit7_1 [.sh (.lst (ns.map .int)), .sh (.int most), .sh (.lst [.int n, .int h6, .int h100, .int h100']), .un, .un, .un, .un, .un, .un, .un, .un]) N (fun y => ∃ c : Circ, y = c.v ∧ c.Good ∧ c.n = n ∧ c.cells.length = min most (max 1 (ns.length - 3)) ∧ 0 < c.cells.length) B T := by
  obtain ⟨nc, hnc⟩ : ∃ nc : Nat, nc = min most (max 1 (ns.length - 3)) := ⟨_, rfl⟩
  have hnc1 : 1 ≤ nc := by omega
  have hnc40 : nc ≤ 40 := by omega
  have hmm : min (most : Int) (max 1 ((ns.length : Int) - 3)) = (nc : Int) := by omega
  unfold m__law_circuit7_1
  simp! []
  refine Then.mk ?_; unfold m__law_circuit7_2; simp! []
  refine Then.mk ?_; unfold m__law_circuit7_3; simp! [List.length_map, hmm]
  refine Then.mk ?_
  unfold m__law_circuit7_4
  simp only [Ok_seq]
  unfold m__law_circuit7_e_F
  have ct : (n : Int) + (nc : Int) = ((n + nc : Nat) : Int) := by omega
  rw [ct]
  have s1 := smallI_nat (n := n) (by omega)
  have s2 := smallI_nat (n := n + nc) (by omega)
  have e1 : ((n + nc : Nat) : Int) - (n : Int) = (nc : Int) := by omega
  refine Ok_for (xs := rangeL n nc) (by simp! [s1, s2, e1, Bool.and_self, Int.toNat_natCast]) ?_
  refine forL_ok _ (CInv ns most [(n : Int), h6, h100, h100'] n (n + nc)) _ ⟨[], 0, .un, .un, .un, rfl, rfl, .nil _, rfl, by omega⟩ ?_ ?_
  · rintro i hi env ⟨cs, lats, s6, s8, s9, rfl, hc, hg, hl, h4⟩
    rw [range_len] at hi
    rw [range_get]
    refine ⟨CE0 ns most [(n : Int), h6, h100, h100'] cs lats (n + nc) (.sh (.int ((n : Int) + (i : Int)))) s8 s9, rfl, ?_⟩
    have ei : (3 : Int) + ((n : Int) + (i : Int)) - (n : Int) = ((3 + i : Nat) : Int) := by omega
    obtain ⟨z, ez⟩ := cell_k ns (3 + i)
    obtain ⟨ps, ep, hp⟩ := parts_k z [16, 100, 100, 100] (by decide) (by decide)
    have ep' : f__law_parts [.int z, .lst [.int 16, .int 100, .int 100, .int 100]] = .ret (.lst (ps.map .int)) := ep
    obtain ⟨k, ek, hk⟩ := kind_ok ps hp (n + i) lats
    have ek' : f__law_kind [.lst (ps.map .int), .int ((n : Int) + (i : Int)), .int lats] = .ret (.str k) := ek
    unfold m__law_circuit7_e_L
    simp! [CE0, ei, ez, ep']
    refine Then.mk ?_; unfold m__law_circuit7_e_1; simp! [ek']
    exact Then.mk (cell_step (ns := ns) (most := most) (hd := [(n : Int), h6, h100, h100']) (by omega) (by omega) (by omega) hc hg hl h4 hp.1 hk)
  · rintro env ⟨cs, lats, s6, s8, s9, rfl, hc, hg, hl, h4⟩
    rw [range_len] at hc
    refine Then.mk ?_; unfold m__law_circuit7_5; simp! [CE0]
    refine Then.mk ?_
    unfold m__law_circuit7_6
    simp only [Ok_seq]
    have o1 : ∀ t6 t8 t9 : Slot, e__law_circuit7_1 [.sh (.lst (ns.map .int)), .sh (.int most), .sh (.lst [.int n, .int h6, .int h100, .int h100']), .sh (.lst (cs.map Cell.v)), .sh (.int lats), .sh (.int (n + nc : Nat)), t6, .un, t8, t9, .un] = .ok (.lst (((List.range (1 + h6)).map fun k => (h100 + k * h100') % (n + nc)).map iv)) := by
      intro t6 t8 t9
      unfold e__law_circuit7_1
      have c1 : (1 : Int) + (h6 : Int) = ((1 + h6 : Nat) : Int) := by omega
      rw [eComp_all (fun k : Nat => Val.int (0 + (k : Int))) (fun k => iv ((h100 + k * h100') % (n + nc))) (List.range (1 + h6)) ?_ (by simp; omega)]
      · rw [List.map_map]; rfl
      · intro k hk
        refine ⟨_, rfl, ?_⟩
        rw [List.mem_range] at hk
        rw [Int.zero_add]
        have m1 : mulOk (k : Int) (h100' : Int) = true := mulOk_r _ _ (by omega)
        have c2 : ((h100 : Int) + (k : Int) * (h100' : Int)) % ((n + nc : Nat) : Int) = (((h100 + k * h100') % (n + nc) : Nat) : Int) := by
          push_cast; rfl
        simp! [wipeE, m1, c2]
        rw [if_pos (by omega)]
        rfl
      · refine (range1_ok (n := 1 + h6) (by simp! [c1]) (by omega)).trans ?_
        rfl
    have ol : ((((List.range (1 + h6)).map fun k => (h100 + k * h100') % (n + nc))).map iv).length ≤ 16777216 := by simp; omega
    simp! [o1]
    refine Then.mk ?_
    unfold m__law_circuit7_7
    have o2 : ∀ x7 : Slot, e__law_circuit7_2 [.sh (.lst (ns.map .int)), .sh (.int most), .sh (.lst [.int n, .int h6, .int h100, .int h100']), .sh (.lst (cs.map Cell.v)), .sh (.int lats), .sh (.int (n + nc : Nat)), s6, x7, s8, s9, .un] = .ok (.lst (((List.range lats).map fun k => (h100 + k) % 4).map iv)) := by
      intro x7
      unfold e__law_circuit7_2
      rw [eComp_all (fun k : Nat => Val.int (0 + (k : Int))) (fun k => iv ((h100 + k) % 4)) (List.range lats) ?_ (by simp; omega)]
      · rw [List.map_map]; rfl
      · intro k hk
        refine ⟨_, rfl, ?_⟩
        rw [Int.zero_add]
        have c2 : ((h100 : Int) + (k : Int)) % 4 = (((h100 + k) % 4 : Nat) : Int) := by
          push_cast; rfl
        simp! [wipeE, c2]
        rfl
      · refine (range1_ok (n := lats) (by simp! []) (by omega)).trans ?_
        rfl
    simp! [o2]
    refine ⟨⟨n, cs, (List.range (1 + h6)).map fun k => (h100 + k * h100') % (n + nc), (List.range lats).map fun k => (h100 + k) % 4⟩, rfl, ⟨hn, (by show cs.length ≤ 40; omega), ?_, (by show 0 < ((List.range (1 + h6)).map _).length; rw [List.length_map, List.length_range]; omega), (by show ((List.range (1 + h6)).map _).length ≤ 6; rw [List.length_map, List.length_range]; omega), ?_, (by show ((List.range lats).map _).length = _; rw [List.length_map, List.length_range]; exact hl.symm), (by show ((List.range lats).map _).length ≤ 4; rw [List.length_map, List.length_range]; exact h4)⟩, rfl, (by show cs.length = _; omega), (by show 0 < cs.length; omega)⟩
    · show GCells (n + cs.length) n cs
      rw [hc]; exact hg
    · intro x hx
      rw [List.mem_map] at hx
      obtain ⟨k, _, rfl⟩ := hx
      show _ < n + cs.length
      rw [hc]
      exact Nat.mod_lt _ (by omega)
theorem circuit7_ok (ns : List Int) (hns : ns.length ≤ 63) (most : Nat) (h1 : 1 ≤ most) (h40 : most ≤ 40) : ∃ c : Circ, f__law_circuit7 [.lst (ns.map .int), .int most] = .ret c.v ∧ c.Good ∧ c.cells.length ≤ most ∧ 0 < c.cells.length := by
  suffices hh : ∃ y, f__law_circuit7 [.lst (ns.map .int), .int most] = .ret y ∧ ∃ c : Circ, y = c.v ∧ c.Good ∧ c.cells.length ≤ most ∧ 0 < c.cells.length by
    obtain ⟨y, h, c, rfl, h2⟩ := hh; exact ⟨c, h, h2⟩
  refine defn_some rfl ?_
  obtain ⟨z, ez⟩ := cell_k ns 0
  have ez : f__law_cell [.lst (ns.map .int), .int 0] = .ret (.int z) := ez
  obtain ⟨ps, ep, hp⟩ := parts_k z [7, 6, 100, 100] (by decide) (by decide)
  obtain ⟨p0, _, rfl, h0, hp⟩ := hp.cons
  obtain ⟨p1, _, rfl, hp1, hp⟩ := hp.cons
  obtain ⟨p2, _, rfl, hp2, hp⟩ := hp.cons
  obtain ⟨p3, _, rfl, hp3, hp⟩ := hp.cons
  obtain rfl := hp.nil'
  simp only [List.map_cons, List.map_nil] at ep
  obtain ⟨n, rfl⟩ := Int.eq_ofNat_of_zero_le h0.1
  obtain ⟨a, rfl⟩ := Int.eq_ofNat_of_zero_le hp1.1
  obtain ⟨b, rfl⟩ := Int.eq_ofNat_of_zero_le hp2.1
  obtain ⟨d, rfl⟩ := Int.eq_ofNat_of_zero_le hp3.1
  unfold m__law_circuit7
  simp! [ez, ep]
  exact Then.mk ((circ_rest hns most h1 h40 n a b d (by omega) (by omega) (by omega) (N := fun _ => ∃ c : Circ, Val.non = c.v ∧ c.Good ∧ c.cells.length ≤ most ∧ 0 < c.cells.length) (B := fun _ => False) (T := fun _ => False)).imp (fun _ h => h) (fun y ⟨c, q1, q2, q3, q4, q5⟩ => ⟨c, q1, q2, by omega, q5⟩) (fun _ h => h) (fun _ h => h))
end Lib
end Vm
end

/-! Circuits: the laws' own values, bits, wrong lists. -/
noncomputable section
namespace Vm
local macro_rules | `(tactic| simp! [$ts,*]) => `(tactic| simp only [Ok_seq, sSet, sSetN, sOwn, sOwnN, sAppend, sAppendN, sFreeze, sForget, sIf, sRet, sRetN, sNext, sPut, sDrop, sAug, sOn, sItem, sItemN, itemPut, sBreak, sCont, hide, Slot.hide, eVar, eC, e1, e2, eArgs, eAnd, eOr, eNot, eIf, eChain, eCall, eCut, partOf, aNil, aCons, asBl, bVal, bTruth, bAnd, bOr, bNot, bYes, truth, vAdd_int, vAdd_lst, vAdd_tup, vSub, vMul_int, vDiv_int, vMod_int, vPow18, vPow12, vPow11, vPow9, vPow6, vNeg, vLt, vLe, vGt, vGe, vEq, vNe, eqR_int, eqR_bl, eqR_str, vIsi, Val.isOb, vTup, vLst, vLen_lst, vLen_tup, vInt, vIs, vIsNot, vIx_lst, vIx_tup, vIx_dct, vListOf, vTupOf, vIpAdd, vMax2, vMax3, vMin2, Val.ty, Ty.sub, noLst_int, noLst_bl, noLst_str, noLst_non, noLst_tup, noLsts_nil, noLsts_cons, noLsts_ints, pName, pTup, pTupL, putAll, iSeq, itemsOf, iRange1, iRange2, DR.res, Res.ofOpt_some, Res.ofOpt_none, Res.bind_ok, Res.bind_exc, Res.bind_bad, Res.nx_ok, Res.flow_ok, Res.flow_bad, Flow.bind_next, Flow.bind_ret, Flow.bind_brk, Flow.bind_cont, Flow.bind_bad, Ok_next, Ok_ret, Ok_brk, Ok_cont, Ok_bind, Ok_cond, Ok_ite, Ok_ofOpt, flow_ite, bind_ite, nx_ite', flow_cond, bind_cond, cond_andV, cond_orV, cond_and, cond_or, atI_nat, atI_0, atI_1, atI_lit, startE, List.map_cons, List.map_nil, List.length_cons, List.length_nil, List.getElem?_cons_zero, List.getElem?_cons_succ, List.set_cons_zero, List.set_cons_succ, List.set_nil, List.replicate, List.append_nil, List.cons_append, List.nil_append, Nat.sub_self, Nat.reduceAdd, Nat.reduceSub, Nat.reduceLT, Nat.reduceLeDiff, Nat.reduceEqDiff, Int.reduceLE, Int.reduceLT, Int.reduceToNat, Int.reducePow, Int.reduceMul, Int.reduceAdd, Int.reduceSub, Int.reduceNeg, Int.cast_ofNat_Int, if_true, if_false, ↓reduceIte, reduceCtorEq, beq_self_eq_true, and_true, true_and, decide_eq_true_eq, decide_eq_false_iff_not, Bool.not_eq_true', Bool.not_eq_false', Bool.and_true, Bool.true_and, Bool.or_true, Bool.and_false, Bool.or_false, Bool.false_or, Bool.true_or, Bool.false_and, Bool.not_true, Bool.not_false, beq_iff_eq, forall_const, false_implies, Option.map_some, decide_true, decide_false, cond_true, cond_false, $ts,*])
theorem cut_take {α : Type} (xs : List α) (k : Nat) (h : k ≤ xs.length) : cut xs none (some (k : Int)) = xs.take k := by
  unfold cut cutAt
  simp only [Int.toNat_natCast, show ¬ ((k : Int) < 0) by omega, if_false]
  rw [Nat.min_eq_left h]; simp
theorem cut_drop {α : Type} (xs : List α) (k : Nat) : cut xs (some (k : Int)) none = xs.drop k := by
  unfold cut cutAt
  simp only [Int.toNat_natCast, show ¬ ((k : Int) < 0) by omega, if_false]
  by_cases h : k ≤ xs.length
  · rw [Nat.min_eq_left h]
    exact List.take_of_length_le (by rw [List.length_drop]; omega)
  · rw [Nat.min_eq_right (by omega), List.drop_length, List.drop_eq_nil_of_le (by omega)]; simp
theorem divOk2 : divOk 2 = true := divOk_iff.mpr (by omega)
theorem divOk3 : divOk 3 = true := divOk_iff.mpr (by omega)
theorem divOk12 : divOk 12 = true := divOk_iff.mpr (by omega)
namespace Lib
open PySem
theorem bits_ok (z : Int) (n : Nat) (hn : n ≤ 1000) : ∃ bs : List Bool, f__law_bits [.int z, .int n] = .ret (.lst (bs.map bv)) ∧ bs.length = n := by
  suffices hh : ∃ y, f__law_bits [.int z, .int n] = .ret y ∧ ∃ bs : List Bool, y = .lst (bs.map bv) ∧ bs.length = n by
    obtain ⟨y, h, bs, rfl, h2⟩ := hh; exact ⟨bs, h, h2⟩
  refine defn_some rfl ?_
  unfold m__law_bits
  simp! []
  refine Then.mk ?_
  unfold m__law_bits_1
  simp only [Ok_seq]
  unfold m__law_bits_b_F
  refine Ok_for (xs := rangeL 0 n) (range1_ok (by simp! []) (by omega)) ?_
  refine forL_ok _ (fun i env => ∃ (z : Int) (bs : List Bool) (s3 : Slot), env = [.sh (.int z), .sh (.int n), .oL (bs.map bv), s3] ∧ bs.length = i) _ ⟨z, [], _, rfl, rfl⟩ ?_ ?_
  · rintro i hi env ⟨z, bs, s3, rfl, hb⟩
    rw [range_len] at hi
    rw [range_get]
    refine ⟨_, rfl, ?_⟩
    have hz : Val.int (z % 2) = bv (z % 2 == 1) := by
      have : z % 2 = 0 ∨ z % 2 = 1 := by omega
      rcases this with h | h <;> rw [h] <;> rfl
    unfold m__law_bits_b_L
    simp! [List.length_map]
    refine ⟨by omega, ?_⟩
    refine Then.mk ?_; unfold m__law_bits_b_1; simp! [divOk2]
    refine ⟨z / 2, bs ++ [z % 2 == 1], .sh (.int (0 + (i : Int))), ?_, by rw [List.length_append, hb]; rfl⟩
    rw [hz, List.map_append]; rfl
  · rintro env ⟨z, bs, s3, rfl, hb⟩
    rw [range_len] at hb
    refine Then.mk ?_; unfold m__law_bits_2; simp! []
    refine Then.mk ?_; unfold m__law_bits_3; simp! []
    exact ⟨bs, rfl, hb⟩
theorem is_bits_ok (bs : List Bool) (n : Int) (hn : n = bs.length) : f__law_is_bits [.lst (bs.map bv), .int n] = .ret (.bl true) := by
  subst hn
  refine defn_ret rfl ?_
  unfold m__law_is_bits
  simp! [List.length_map, Int.reduceBEq]
  refine Then.mk ?_
  unfold m__law_is_bits_1
  simp only [Ok_seq]
  unfold m__law_is_bits_b_F
  refine Ok_for (xs := bs.map bv) (by simp! []) ?_
  refine forL_ind bv (fun _ env => ∃ s2, env = [.sh (.lst (bs.map bv)), .sh (.int bs.length), s2]) ?_ ?_ bs _ ⟨_, rfl⟩
  · rintro b bs' env ⟨s2, rfl⟩
    refine ⟨_, rfl, ?_⟩
    unfold m__law_is_bits_b_L
    cases b
    · simp! [isint_bv, bv_f]
      exact ⟨_, rfl⟩
    · simp! [isint_bv, bv_t]
      exact ⟨_, rfl⟩
  · rintro env ⟨s2, rfl⟩
    refine Then.mk ?_; unfold m__law_is_bits_2; simp! []
def LInv (c : Circ) (ins st : List Bool) (total : Nat) (cs : List Cell) (env : Env) : Prop := ∃ (m : Nat) (vals : List Bool) (k : Nat) (s5 : Slot), env = [.sh c.v, .sh (.lst (ins.map bv)), .sh (.lst (st.map bv)), .oL (vals.map bv), .sh (.int k), s5, .un] ∧
    GCells total m cs ∧ vals.length = m ∧ (st.drop k).length = (latches cs).length ∧ runS (fun _ b => b) cs vals (st.drop k) = runS (fun _ b => b) c.cells ins st ∧ m + cs.length ≤ 16777215
theorem lvalues_ok (c : Circ) (ins st : List Bool) {total : Nat} (hc : GCells total c.n c.cells) (hn : ins.length = c.n) (hs : st.length = (latches c.cells).length) (hl : c.n + c.cells.length ≤ 16777215) :
    f__law_values [c.v, .lst (ins.map bv), .lst (st.map bv)] = .ret (.lst ((runS (fun _ b => b) c.cells ins st).map bv)) := by
  refine defn_ret rfl ?_
  unfold m__law_values
  simp! []
  refine Then.mk ?_; unfold m__law_values_1; simp! []
  refine Then.mk ?_
  unfold m__law_values_2
  simp only [Ok_seq]
  unfold m__law_values_c_F
  refine Ok_for (xs := c.cells.map Cell.v) (by simp! [circ_1]) ?_
  refine forL_ind Cell.v (LInv c ins st total) ?_ ?_ c.cells _ ⟨c.n, ins, 0, _, rfl, hc, hn, hs, rfl, hl⟩
  · rintro x cs env ⟨m, vals, k, s5, rfl, hg, hv, hle, hr, hb⟩
    refine ⟨_, rfl, ?_⟩
    rw [List.length_cons] at hb
    have lv : (vals.map bv).length < 16777216 := by rw [List.length_map]; omega
    have lv' : vals.length < 16777216 := by omega
    cases hg with
    | cons g gs =>
      unfold m__law_values_c_L
      have h0 : vEq (.str x.k) (.str "latch") = .ok (.bl (decide (x.k = kLatch))) := by unfold vEq; rw [eq_latch]; rfl
      have hc0 : (e2 vEq (e2 vIx (eVar 5) (eC (.int 0))) (eC (.str "latch"))) [.sh c.v, .sh (.lst (ins.map bv)), .sh (.lst (st.map bv)), .oL (vals.map bv), .sh (.int k), .sh x.v, .un] = .ok (.bl (decide (x.k = kLatch))) := by
        show ((vIx x.v (.int 0)).bind fun a => (Res.ok (Val.str "latch")).bind fun b => vEq a b) = _
        rw [cell_0]
        exact h0
      unfold sIf bVal
      show Ok ((((e2 vEq (e2 vIx (eVar 5) (eC (.int 0))) (eC (.str "latch"))) [.sh c.v, .sh (.lst (ins.map bv)), .sh (.lst (st.map bv)), .oL (vals.map bv), .sh (.int k), .sh x.v, .un]).bind _).flow _ _) _ _ _ _
      rw [hc0]
      by_cases hx : x.k = kLatch
      · have hlx : latches (x :: cs) = x :: latches cs := by unfold latches; rw [List.filter_cons, if_pos (by simp [hx])]
        rw [hlx, List.length_cons] at hle
        rw [List.length_drop] at hle
        have hks : k < st.length := by omega
        have gk : (st.map bv)[k]? = some (bv st[k]) := by rw [List.getElem?_map, List.getElem?_eq_getElem hks]; rfl
        rw [decide_eq_true hx]
        simp! [gk, lv, List.length_map, lv']
        refine Then.mk ?_; unfold m__law_values_ca_1; simp! []
        refine ⟨m + 1, vals ++ [st[k]], k + 1, .sh x.v, ?_, gs, by rw [List.length_append, hv]; rfl, by rw [List.length_drop]; omega, ?_, by omega⟩
        · rw [List.map_append]; rfl
        · rw [← hr]
          conv => rhs; unfold runS
          rw [if_pos hx]
          rw [List.drop_eq_getElem_cons hks]
          rfl
      · have hlx : latches (x :: cs) = latches cs := by unfold latches; rw [List.filter_cons, if_neg (by simp [hx])]
        rw [hlx] at hle
        have hkx : x.k ∈ plainKinds := by rcases g.kind with h | h; exact absurd h hx; exact h
        have e2 : e__law_values_1 [.sh c.v, .sh (.lst (ins.map bv)), .sh (.lst (st.map bv)), .oL (vals.map bv), .sh (.int k), .sh x.v, .un] = .ok (.lst ((x.ins.map fun i => vals.getD i false).map bv)) := by
          unfold e__law_values_1
          rw [eComp_all iv (fun i => bv (vals.getD i false)) x.ins rfl (by rw [g.ar]; have := arity3 x.k; omega)]
          · rw [List.map_map]; rfl
          · intro i hi
            refine ⟨_, rfl, ?_⟩
            have := getD_bv vals i (by rw [hv]; exact g.lt hx i hi)
            show Res.ofOpt (atI (vals.map bv) (i : Int)) = _
            rw [atI_nat, this]; rfl
        have cv := lvalue_ok x.k hkx (x.ins.map fun i => vals.getD i false)
        have nb : ∀ b : Bool, (bv b).noLst = true := fun _ => rfl
        rw [decide_eq_false hx]
        simp! [cell_0, e2, cv, nb, lv, List.length_map, lv']
        refine ⟨m + 1, vals ++ [cval x.k (x.ins.map fun i => vals.getD i false)], k, .sh x.v, ?_, gs, by rw [List.length_append, hv]; rfl, hle, ?_, by omega⟩
        · rw [List.map_append]; rfl
        · rw [← hr]
          conv => rhs; unfold runS
          rw [if_neg hx]
  · rintro env ⟨m, vals, k, s5, rfl, hg, hv, hle, hr, hb⟩
    have hr : vals = runS (fun _ b => b) c.cells ins st := hr
    refine Then.mk ?_; unfold m__law_values_3; simp! []
    refine Then.mk ?_; unfold m__law_values_4; simp! []
    rw [hr]
theorem bare_ok (ns : List Int) (c : Circ) (hg : c.Good) : ∃ c' : Circ, f__law_bare [.lst (ns.map .int), c.v] = .ret c'.v ∧ c'.Good ∧ (c' = c ∨ (0 < c.n ∧ c'.n = c.n ∧ c'.cells = [])) := by
  suffices hh : ∃ y, f__law_bare [.lst (ns.map .int), c.v] = .ret y ∧ ∃ c' : Circ, y = c'.v ∧ c'.Good ∧ (c' = c ∨ (0 < c.n ∧ c'.n = c.n ∧ c'.cells = [])) by
    obtain ⟨y, h, c', rfl, h2⟩ := hh; exact ⟨c', h, h2⟩
  refine defn_some rfl ?_
  obtain ⟨z, ez⟩ := cell_k ns 2
  have ez : f__law_cell [.lst (ns.map .int), .int 2] = .ret (.int z) := ez
  unfold m__law_bare
  have k0 : vIx c.v (.int 0) = .ok (.int c.n) := rfl
  simp! [k0, ez]
  refine ⟨fun _ => ⟨c, rfl, hg, .inl rfl⟩, fun h => ?_⟩
  have hn : 0 < c.n := by
    rw [Bool.or_eq_false_iff, beq_eq_false_iff_ne] at h
    have := h.1
    omega
  refine Then.mk ?_
  unfold m__law_bare_1
  have e1 : e__law_bare_1 [.sh (.lst (ns.map .int)), .sh c.v, .un] = .ok (.lst ((c.outs.map fun i => i % c.n).map iv)) := by
    unfold e__law_bare_1
    rw [eComp_all iv (fun i => iv (i % c.n)) c.outs rfl (by have := hg.o6; omega)]
    · rw [List.map_map]; rfl
    · intro i _
      refine ⟨_, rfl, ?_⟩
      have c1 : (i : Int) % (c.n : Int) = ((i % c.n : Nat) : Int) := by push_cast; rfl
      simp! [wipeE, iv, k0, c1]
      rw [if_pos (by omega)]
  simp! [k0, e1]
  refine ⟨⟨c.n, [], c.outs.map fun i => i % c.n, []⟩, rfl, ⟨hg.n6, Nat.zero_le _, .nil _, by show 0 < (c.outs.map _).length; rw [List.length_map]; exact hg.o1, by show (c.outs.map _).length ≤ 6; rw [List.length_map]; exact hg.o6, ?_, rfl, Nat.zero_le _⟩, .inr ⟨hn, rfl, rfl⟩⟩
  intro x hx
  rw [List.mem_map] at hx
  obtain ⟨i, _, rfl⟩ := hx
  exact Nat.mod_lt _ hn
def BadBits (ws : List Int) (n : Nat) : Prop := ws.length ≠ n ∨ ∃ w ∈ ws, ¬ (w = 0 ∨ w = 1)
theorem wrong_ok (bs : List Bool) (hbl : bs.length ≤ 1000) (ch : Int) (hc : 0 ≤ ch ∧ ch < 120) : ∃ ws : List Int, f__law_wrong [.lst (bs.map bv), .int ch] = .ret (.lst (ws.map .int)) ∧ BadBits ws bs.length := by
  suffices hh : ∃ y, f__law_wrong [.lst (bs.map bv), .int ch] = .ret y ∧ ∃ ws : List Int, y = .lst (ws.map .int) ∧ BadBits ws bs.length by
    obtain ⟨y, h, ws, rfl, h2⟩ := hh; exact ⟨ws, h, h2⟩
  refine defn_some rfl ?_
  rw [bv_ints]
  obtain ⟨us, hus⟩ : ∃ us, us = bs.map b2i := ⟨_, rfl⟩
  have hul : us.length = bs.length := by rw [hus, List.length_map]
  rw [← hus, ← hul]
  have hm : ch / 3 % 4 = 0 ∨ ch / 3 % 4 = 1 ∨ ch / 3 % 4 = 2 ∨ ch / 3 % 4 = 3 := by omega
  have item : ∃ it : Int, atI [Val.int 2, .int (-1), .int 3, .int (11 + ch)] (ch / 3 % 4) = some (.int it) ∧ ¬ (it = 0 ∨ it = 1) := by
    rcases hm with h | h | h | h <;> rw [h]
    · exact ⟨2, rfl, by omega⟩
    · exact ⟨-1, rfl, by omega⟩
    · exact ⟨3, rfl, by omega⟩
    · exact ⟨11 + ch, rfl, by omega⟩
  obtain ⟨it, hit, hbad⟩ := item
  obtain ⟨a, ha⟩ : ∃ a : Nat, ch / 12 % ((us.length : Int) + 1) = a := ⟨_, (Int.toNat_of_nonneg (Int.emod_nonneg _ (by omega))).symm⟩
  have ha2 : a ≤ us.length := by
    have := Int.emod_lt_of_pos (ch / 12) (show (0 : Int) < (us.length : Int) + 1 by omega)
    omega
  have mm : ∀ xs ys : List Int, xs.length ≤ 2000 → ys.length ≤ 2000 → (xs.map Val.int).length + (ys.map Val.int).length ≤ 16777216 := fun xs ys h1 h2 => by rw [List.length_map, List.length_map]; omega
  have tk : ∀ k : Nat, (us.take k).length ≤ 1000 := fun k => by rw [List.length_take]; omega
  have dk : ∀ k : Nat, (us.drop k).length ≤ 1000 := fun k => by rw [List.length_drop]; omega
  unfold m__law_wrong
  simp! [divOk3, hit]
  refine Then.mk ?_; unfold m__law_wrong_1; simp! [divOk12, List.length_map, ha]
  refine ⟨by omega, ?_⟩
  refine Then.mk ?_
  unfold m__law_wrong_2
  have add1 : ∀ (xs : List Int) (z : Int) (ys : List Int), xs.length ≤ 1000 → ys.length ≤ 1000 → ((vAdd (.lst (xs.map .int)) (.lst [.int z])).bind fun p => vAdd p (.lst (ys.map .int))) = .ok (.lst ((xs ++ [z] ++ ys).map .int)) := by
    intro xs z ys h1 h2
    rw [vAdd_lst, if_pos (by rw [List.length_map]; simp; omega)]
    show vAdd (.lst (xs.map .int ++ [.int z])) (.lst (ys.map .int)) = _
    rw [vAdd_lst, if_pos (by rw [List.length_append, List.length_map, List.length_map]; simp; omega), List.map_append, List.map_append]
    rfl
  have add2 : ∀ (xs ys : List Int), xs.length ≤ 1000 → ys.length ≤ 1000 → vAdd (.lst (xs.map .int)) (.lst (ys.map .int)) = .ok (.lst ((xs ++ ys).map .int)) := by
    intro xs ys h1 h2
    rw [vAdd_lst, if_pos (by rw [List.length_map, List.length_map]; omega), List.map_append]
  have ct : ∀ k : Nat, k ≤ us.length → vCut (.lst (us.map .int)) none (some (k : Int)) = .ok (.lst ((us.take k).map .int)) := fun k hk => by
    show Res.ok (Val.lst (cut (us.map .int) none (some (k : Int)))) = _
    rw [cut_map, cut_take us k hk]
  have cd : ∀ k : Nat, vCut (.lst (us.map .int)) (some (k : Int)) none = .ok (.lst ((us.drop k).map .int)) := fun k => by
    show Res.ok (Val.lst (cut (us.map .int) (some (k : Int)) none)) = _
    rw [cut_map, cut_drop us k]
  have i1 : (e2 vAdd (e2 vAdd (eCut (eVar 0) none (some (eVar 3))) (eArgs vLst (aCons (eC (.int 1)) aNil))) (eCut (eVar 0) (some (eVar 3)) none)) [.sh (.lst (us.map .int)), .sh (.int ch), .sh (.int it), .sh (.int a)] = .ok (.lst ((us.take a ++ [1] ++ us.drop a).map .int)) := by
    rw [← add1 (us.take a) 1 (us.drop a) (tk a) (dk a)]
    show ((vCut (.lst (us.map .int)) none (some (a : Int))).bind fun x => (Res.ok (Val.lst [.int 1])).bind fun y => vAdd x y).bind (fun p => (vCut (.lst (us.map .int)) (some (a : Int)) none).bind fun q => vAdd p q) = _
    rw [ct a ha2, cd a]
    rfl
  simp only [Ok_seq]
  unfold sIf
  have t1 : (bVal (e2 vEq (e2 vMod (eArgs vInt (aCons (eVar 1) aNil)) (eC (.int 3))) (eC (.int 0)))) [.sh (.lst (us.map .int)), .sh (.int ch), .sh (.int it), .sh (.int a)] = .ok (ch % 3 == 0) := by
    simp! []
  rw [t1]
  simp only [Res.flow_ok, Ok_cond]
  refine ⟨fun _ => ?_, fun h0 => ?_⟩
  · unfold sRet
    rw [i1]
    rw [Res.flow_ok, Ok_ret]
    refine ⟨_, rfl, .inl ?_⟩
    simp only [List.length_append, List.length_take, List.length_drop, List.length_singleton]
    omega
  · simp! []
    refine Then.mk ?_
    unfold m__law_wrong_3
    by_cases hl0 : us.length = 0
    · have q : ((us.length : Int) == 0) = true := by rw [beq_iff_eq]; omega
      simp! [List.length_map, q]
      refine ⟨[it], rfl, .inl ?_⟩
      rw [hl0]; exact Nat.one_ne_zero
    · have q : ((us.length : Int) == 0) = false := by rw [beq_eq_false_iff_ne]; omega
      simp! [List.length_map, q]
      obtain ⟨b, hb⟩ : ∃ b : Nat, (a : Int) % (us.length : Int) = b := ⟨_, (Int.toNat_of_nonneg (Int.emod_nonneg _ (by omega))).symm⟩
      have hb2 : b < us.length := by
        have := Int.emod_lt_of_pos (a : Int) (show (0 : Int) < (us.length : Int) by omega)
        omega
      refine Then.mk ?_; unfold m__law_wrong_4; simp! [List.length_map, hb]
      refine ⟨by omega, ?_⟩
      refine Then.mk ?_
      unfold m__law_wrong_5
      have c1 : (b : Int) + 1 = ((b + 1 : Nat) : Int) := by omega
      simp only [Ok_seq]
      unfold sIf
      have t2 : (bVal (e2 vEq (e2 vMod (eArgs vInt (aCons (eVar 1) aNil)) (eC (.int 3))) (eC (.int 1)))) [.sh (.lst (us.map .int)), .sh (.int ch), .sh (.int it), .sh (.int b)] = .ok (ch % 3 == 1) := by
        simp! []
      rw [t2]
      simp only [Res.flow_ok, Ok_cond]
      refine ⟨fun _ => ?_, fun h1 => ?_⟩
      · unfold sRet
        have i2 : (e2 vAdd (eCut (eVar 0) none (some (eVar 3))) (eCut (eVar 0) (some (e2 vAdd (eVar 3) (eC (.int 1)))) none)) [.sh (.lst (us.map .int)), .sh (.int ch), .sh (.int it), .sh (.int b)] = .ok (.lst ((us.take b ++ us.drop (b + 1)).map .int)) := by
          rw [← add2 (us.take b) (us.drop (b + 1)) (tk b) (dk _)]
          show (vCut (.lst (us.map .int)) none (some (b : Int))).bind (fun p => (vCut (.lst (us.map .int)) (some ((b : Int) + 1)) none).bind fun q => vAdd p q) = _
          rw [ct b (by omega), c1, cd (b + 1)]
          rfl
        rw [i2, Res.flow_ok, Ok_ret]
        refine ⟨_, rfl, .inl ?_⟩
        simp only [List.length_append, List.length_take, List.length_drop]
        omega
      · simp! []
        refine Then.mk ?_
        unfold m__law_wrong_6 sRet
        have i3 : (e2 vAdd (e2 vAdd (eCut (eVar 0) none (some (eVar 3))) (eArgs vLst (aCons (eVar 2) aNil))) (eCut (eVar 0) (some (e2 vAdd (eVar 3) (eC (.int 1)))) none)) [.sh (.lst (us.map .int)), .sh (.int ch), .sh (.int it), .sh (.int b)] = .ok (.lst ((us.take b ++ [it] ++ us.drop (b + 1)).map .int)) := by
          rw [← add1 (us.take b) it (us.drop (b + 1)) (tk b) (dk _)]
          show ((vCut (.lst (us.map .int)) none (some (b : Int))).bind fun x => (Res.ok (Val.lst [.int it])).bind fun y => vAdd x y).bind (fun p => (vCut (.lst (us.map .int)) (some ((b : Int) + 1)) none).bind fun q => vAdd p q) = _
          rw [ct b (by omega), c1, cd (b + 1)]
          rfl
        rw [i3, Res.flow_ok, Ok_ret]
        exact ⟨_, rfl, .inr ⟨it, by simp, hbad⟩⟩
end Lib
end Vm
end

/-! Placements, pins, wires: the texts. -/
noncomputable section
namespace Vm
namespace Lib
open PySem
def m__law_circuitP_ec_1 : ST := (sAppend 3 (eArgs vTup (aCons (eVar 9) (aCons (eCall f__law_drawn (aCons (eVar 8) (aCons (eC (.int 1)) (aCons (eVar 5) aNil)))) (aCons (eVar 6) aNil)))))
def m__law_circuitP_e_2 : ST := (sIf (bVal (e2 vEq (eVar 9) (eC (.str "latch")))) (sSeq (sSet 4 (e2 vAdd (eVar 4) (eC (.int 1))))
    m__law_circuitP_ec_1) (sIf (bVal (e2 vIn (eVar 9) (eArgs vLst (aCons (eC (.str "tie0")) (aCons (eC (.str "tie1")) aNil))))) (sAppend 3 (eArgs vTup (aCons (eVar 9) (aCons (eArgs vTup aNil) (aCons (eVar 6) aNil))))) (sIf (bVal (e2 vEq (eVar 9) (eC (.str "not")))) (sAppend 3 (eArgs vTup (aCons (eVar 9) (aCons (eCall f__law_drawn (aCons (eVar 8) (aCons (eC (.int 1)) (aCons (eVar 6) aNil)))) (aCons (eVar 6) aNil))))) (sAppend 3 (eArgs vTup (aCons (eVar 9) (aCons (eCall f__law_drawn (aCons (eVar 8) (aCons (eArgs vInt (aCons (e2 vIx (eVar 9) (e1 vNeg (eC (.int 1)))) aNil)) (aCons (eVar 6) aNil)))) (aCons (eVar 6) aNil))))))))
def m__law_circuitP_e_1 : ST := (sSeq (sSet 9 (eCall f__law_kind (aCons (eVar 8) (aCons (eVar 6) (aCons (eVar 4) aNil)))))
    m__law_circuitP_e_2)
def m__law_circuitP_e_L : ST := (sSeq (sSet 8 (eCall f__law_parts (aCons (eCall f__law_cell (aCons (eVar 0) (aCons (e2 vSub (e2 vAdd (eC (.int 3)) (eVar 6)) (e2 vIx (eVar 2) (eC (.int 0)))) aNil))) (aCons (eArgs vLst (aCons (eC (.int 16)) (aCons (eC (.int 100)) (aCons (eC (.int 100)) (aCons (eC (.int 100)) aNil))))) aNil))))
    m__law_circuitP_e_1)
def m__law_circuitP_e_F : ST := (sFor (iRange2 (e2 vIx (eVar 2) (eC (.int 0))) (eVar 5)) (pName 6) m__law_circuitP_e_L)
def e__law_circuitP_1 : EX := (eComp (iRange1 (e2 vAdd (eC (.int 1)) (e2 vIx (eVar 2) (eC (.int 1))))) [10] (pName 10) bYes (e2 vMod (eArgs vInt (aCons (e2 vAdd (e2 vIx (eVar 2) (eC (.int 2))) (e2 vMul (eVar 10) (e2 vIx (eVar 2) (eC (.int 3))))) aNil)) (eVar 5)))
def m__law_circuitP_7 : ST := (sRet (eArgs vTup (aCons (e2 vIx (eVar 2) (eC (.int 0))) (aCons (eArgs vTupOf (aCons (eVar 3) aNil)) (aCons (eVar 7) (aCons (eRange1 .tup (eVar 4)) aNil))))))
def m__law_circuitP_6 : ST := (sSeq (sSet 7 (eArgs vTupOf (aCons e__law_circuitP_1 aNil)))
    m__law_circuitP_7)
def m__law_circuitP_5 : ST := (sSeq (sFreeze 3) m__law_circuitP_6)
def m__law_circuitP_4 : ST := (sSeq m__law_circuitP_e_F
    m__law_circuitP_5)
def m__law_circuitP_3 : ST := (sSeq (sSet 5 (e2 vAdd (e2 vIx (eVar 2) (eC (.int 0))) (eArgs vMin (aCons (eVar 1) (aCons (eArgs vMax (aCons (eC (.int 1)) (aCons (e2 vSub (eArgs vLen (aCons (eVar 0) aNil)) (eC (.int 3))) aNil))) aNil)))))
    m__law_circuitP_4)
def m__law_circuitP_2 : ST := (sSeq (sSet 4 (eC (.int 0)))
    m__law_circuitP_3)
def m__law_circuitP_1 : ST := (sSeq (sOwn 3 (eArgs vLst aNil))
    m__law_circuitP_2)
def m__law_circuitP : ST := (sSeq (sSet 2 (eCall f__law_parts (aCons (eCall f__law_cell (aCons (eVar 0) (aCons (eC (.int 0)) aNil))) (aCons (eArgs vLst (aCons (eC (.int 7)) (aCons (eC (.int 6)) (aCons (eC (.int 100)) (aCons (eC (.int 100)) aNil))))) aNil))))
    m__law_circuitP_1)
def f__law_circuitP : Fn := defn 2 11 m__law_circuitP

def e__law_placement_1 : ET := (eCompT (iRange1 (e2 vAdd (eC (.int 1)) (e2 vIx (eVar 2) (eC (.int 0))))) [4] (pName 4) bYes tNilT)
def m__law_placement_c_L : ST := (sSeq (sAlIns 5 (.ix (.s 3) (e2 vMod (eArgs vInt (aCons (e2 vIx (eVar 2) (e2 vAdd (eC (.int 1)) (e2 vMul (eC (.int 2)) (eVar 4)))) aNil)) (eArgs vLen (aCons (eVar 3) aNil)))) (e2 vMod (eArgs vInt (aCons (e2 vIx (eVar 2) (e2 vAdd (eC (.int 2)) (e2 vMul (eC (.int 2)) (eVar 4)))) aNil)) (e2 vAdd (eArgs vLen (aCons (eVar 5) aNil)) (eC (.int 1)))) (eVar 4))
    sNext)
def m__law_placement_c_F : ST := (sFor (iRange1 (eVar 1)) (pName 4) m__law_placement_c_L)
def m__law_placement_4 : ST := (sRet (eVar 3))
def m__law_placement_3 : ST := (sSeq (sFreezeT 3) m__law_placement_4)
def m__law_placement_2 : ST := (sSeq m__law_placement_c_F
    m__law_placement_3)
def m__law_placement_1 : ST := (sSeq (sOwnT 3 e__law_placement_1)
    m__law_placement_2)
def m__law_placement : ST := (sSeq (sSet 2 (eCall f__law_parts (aCons (eCall f__law_cell (aCons (eVar 0) (aCons (eC (.int 1)) aNil))) (aCons (e2 vAdd (eArgs vLst (aCons (eC (.int 6)) aNil)) (e2 vRep (eArgs vLst (aCons (eC (.int 60)) (aCons (eC (.int 41)) aNil))) (eVar 1))) aNil))))
    m__law_placement_1)
def f__law_placement : Fn := defn 2 6 m__law_placement

def m__law_nets_a_1 : ST := (sRet (e2 vAdd (eArgs vListOf (aCons (e2 vIx (eVar 2) (eC (.int 1))) aNil)) (eArgs vLst (aCons (e2 vIx (eVar 2) (eC (.int 2))) aNil))))
def m__law_nets_2 : ST := (sRet (eArgs vLst (aCons (e2 vIx (eVar 1) (eC (.int 1))) aNil)))
def m__law_nets_1 : ST := (sSeq (sIf (bVal (e2 vEq (e2 vIx (eVar 1) (eC (.int 0))) (eC (.str "output")))) (sRet (eArgs vLst (aCons (e2 vIx (e2 vIx (eVar 0) (eC (.int 2))) (e2 vIx (eVar 1) (eC (.int 1)))) aNil))) sNext)
    m__law_nets_2)
def m__law_nets : ST := (sSeq (sIf (bVal (e2 vEq (e2 vIx (eVar 1) (eC (.int 0))) (eC (.str "cell")))) (sSeq (sSet 2 (e2 vIx (e2 vIx (eVar 0) (eC (.int 1))) (e2 vIx (eVar 1) (eC (.int 1)))))
    m__law_nets_a_1) sNext)
    m__law_nets_1)
def f__law_nets : Fn := defn 2 3 m__law_nets

def m__law_pins_bbb_L : ST := (sAppend 2 (eArgs vTup (aCons (e2 vIx (eVar 6) (eVar 7)) (aCons (e2 vSub (eVar 3) (eC (.int 1))) (aCons (e2 vAdd (e2 vAdd (eVar 4) (eC (.int 1))) (e2 vMul (eC (.int 2)) (eVar 7))) aNil)))))
def m__law_pins_bbb_F : ST := (sFor (iRange1 (eArgs vLen (aCons (eVar 6) aNil))) (pName 7) m__law_pins_bbb_L)
def m__law_pins_bb_2 : ST := (sSet 4 (e2 vAdd (eVar 4) (e2 vMul (eC (.int 2)) (eArgs vLen (aCons (eVar 6) aNil)))))
def m__law_pins_bb_1 : ST := (sSeq m__law_pins_bbb_F
    m__law_pins_bb_2)
def m__law_pins_bb_L : ST := (sSeq (sSet 6 (eCall f__law_nets (aCons (eVar 0) (aCons (eVar 5) aNil))))
    m__law_pins_bb_1)
def m__law_pins_bb_F : ST := (sFor (iSeq (e2 vIx (eVar 1) (eVar 3))) (pName 5) m__law_pins_bb_L)
def m__law_pins_b_L : ST := (sSeq (sSet 4 (e2 vMod (eArgs vInt (aCons (eVar 3) aNil)) (eC (.int 2))))
    m__law_pins_bb_F)
def m__law_pins_b_F : ST := (sFor (iRange1 (eArgs vLen (aCons (eVar 1) aNil))) (pName 3) m__law_pins_b_L)
def m__law_pins_3 : ST := (sRet (eVar 2))
def m__law_pins_2 : ST := (sSeq (sFreeze 2) m__law_pins_3)
def m__law_pins_1 : ST := (sSeq m__law_pins_b_F
    m__law_pins_2)
def m__law_pins : ST := (sSeq (sOwn 2 (eArgs vLst aNil))
    m__law_pins_1)
def f__law_pins : Fn := defn 2 8 m__law_pins

def e_check_placement_1 : EX := (eComp2 (iSeq (eVar 1)) [3, 4] (pName 3) bYes (iSeq (eVar 3)) [4] (pName 4) bYes (eVar 4))
def m_check_placement_2 : ST := (sIf (bVal (e2 vNe (eArgs vSorted (aCons (eVar 2) aNil)) (eRange1 .lst (eArgs vLen (aCons (e2 vIx (eVar 0) (eC (.int 1))) aNil))))) (sRaise ⟨"InvalidPlacement", []⟩) sNext)
def m_check_placement_1 : ST := (sSeq (sSet 2 e_check_placement_1)
    m_check_placement_2)
def m_check_placement : ST := (sSeq (sIf (bNot (bVal (eChain vLe vLe (eC (.int 1)) (eArgs vLen (aCons (eVar 1) aNil)) (eC (.int 6))))) (sRaise ⟨"InvalidPlacement", []⟩) sNext)
    m_check_placement_1)
def f_check_placement : Fn := defn 2 5 m_check_placement

def e_things_of_1 : EX := (eComp (iRange1 (e2 vIx (eVar 0) (eC (.int 0)))) [4] (pName 4) bYes (eArgs vTup (aCons (eC (.str "input")) (aCons (eVar 4) aNil))))
def e_things_of_2 : EX := (eComp (iSeq (eVar 3)) [5] (pName 5) bYes (eArgs vTup (aCons (eC (.str "cell")) (aCons (eVar 5) aNil))))
def m_things_of_b_L : ST := (sAppend 2 e_things_of_2)
def m_things_of_b_F : ST := (sFor (iSeq (eVar 1)) (pName 3) m_things_of_b_L)
def e_things_of_3 : EX := (eComp (iRange1 (eArgs vLen (aCons (e2 vIx (eVar 0) (eC (.int 2))) aNil))) [4] (pName 4) bYes (eArgs vTup (aCons (eC (.str "output")) (aCons (eVar 4) aNil))))
def m_things_of_4 : ST := (sRet (eVar 2))
def m_things_of_3 : ST := (sSeq (sFreeze 2) m_things_of_4)
def m_things_of_2 : ST := (sSeq (sAppend 2 e_things_of_3)
    m_things_of_3)
def m_things_of_1 : ST := (sSeq m_things_of_b_F
    m_things_of_2)
def m_things_of : ST := (sSeq (sOwn 2 (eArgs vLst (aCons e_things_of_1 aNil)))
    m_things_of_1)
def f_things_of : Fn := defn 2 6 m_things_of

def m_thing_nets_a_1 : ST := (sRet (eArgs vLst (aStar (eVar 4) (aCons (eVar 5) aNil))))
def m_thing_nets_2 : ST := (sRet (eArgs vLst (aCons (eVar 2) aNil)))
def m_thing_nets_1 : ST := (sSeq (sIf (bVal (e2 vEq (eVar 1) (eC (.str "output")))) (sRet (eArgs vLst (aCons (e2 vIx (e2 vIx (eVar 0) (eC (.int 2))) (eVar 2)) aNil))) sNext)
    m_thing_nets_2)
def m_thing_nets : ST := (sSeq (sIf (bVal (e2 vEq (eVar 1) (eC (.str "cell")))) (sSeq (sPut (pTup [3, 4, 5]) (e2 vIx (e2 vIx (eVar 0) (eC (.int 1))) (eVar 2)))
    m_thing_nets_a_1) sNext)
    m_thing_nets_1)
def f_thing_nets : Fn := defn 3 6 m_thing_nets

def m_row_pins_ba_L : ST := (sAppend 3 (eArgs vTup (aCons (eVar 8) (aCons (eVar 1) (aCons (e2 vAdd (e2 vAdd (eVar 6) (eC (.int 1))) (e2 vMul (eC (.int 2)) (eVar 7))) aNil)))))
def m_row_pins_ba_F : ST := (sFor (iEnumV (eCall f_thing_nets (aCons (eVar 0) (aCons (eVar 4) (aCons (eVar 5) aNil))))) (pTup [7, 8]) m_row_pins_ba_L)
def m_row_pins_b_F : ST := (sFor (iSeq (eVar 2)) (pTup [4, 5, 6]) m_row_pins_ba_F)
def m_row_pins_3 : ST := (sRet (eVar 3))
def m_row_pins_2 : ST := (sSeq (sFreeze 3) m_row_pins_3)
def m_row_pins_1 : ST := (sSeq m_row_pins_b_F
    m_row_pins_2)
def m_row_pins : ST := (sSeq (sOwn 3 (eArgs vLst aNil))
    m_row_pins_1)
def f_row_pins : Fn := defn 3 9 m_row_pins

def m_start_column : ST := (sRet (e2 vSub (eC (.int 1)) (e2 vMod (eVar 0) (eC (.int 2)))))
def f_start_column : Fn := defn 1 1 m_start_column

def v_CELL_INPUTS : List (Str × Val) := [("not", .int 1), ("nand2", .int 2), ("nand3", .int 3), ("nor2", .int 2), ("nor3", .int 3), ("latch", .int 1), ("tie0", .int 0), ("tie1", .int 0)]
def m_cell_inputs : ST := (sRet (e1 (vKGet v_CELL_INPUTS) (eVar 0)))
def f_cell_inputs : Fn := defn 1 1 m_cell_inputs

def m_cell_width : ST := (sRet (e2 vAdd (e2 vMul (eC (.int 2)) (eCall f_cell_inputs (aCons (eVar 0) aNil))) (eC (.int 2))))
def f_cell_width : Fn := defn 1 1 m_cell_width

def m_thing_width_1 : ST := (sRet (eC (.int 2)))
def m_thing_width : ST := (sSeq (sIf (bVal (e2 vEq (eVar 1) (eC (.str "cell")))) (sRet (eCall f_cell_width (aCons (e2 vIx (e2 vIx (e2 vIx (eVar 0) (eC (.int 1))) (eVar 2)) (eC (.int 0))) aNil))) sNext)
    m_thing_width_1)
def f_thing_width : Fn := defn 3 3 m_thing_width

def m_set_in_row_c_1 : ST := (sAug vIpAdd 3 (eCall f_thing_width (aCons (eVar 0) (aCons (eVar 5) (aCons (eVar 6) aNil)))))
def m_set_in_row_c_L : ST := (sSeq (sAppend 4 (eArgs vTup (aCons (eVar 5) (aCons (eVar 6) (aCons (eVar 3) aNil)))))
    m_set_in_row_c_1)
def m_set_in_row_c_F : ST := (sFor (iSeq (eVar 2)) (pTup [5, 6]) m_set_in_row_c_L)
def m_set_in_row_4 : ST := (sRet (eVar 4))
def m_set_in_row_3 : ST := (sSeq (sFreeze 4) m_set_in_row_4)
def m_set_in_row_2 : ST := (sSeq m_set_in_row_c_F
    m_set_in_row_3)
def m_set_in_row_1 : ST := (sSeq (sOwn 4 (eArgs vLst aNil))
    m_set_in_row_2)
def m_set_in_row : ST := (sSeq (sSet 3 (eCall f_start_column (aCons (eVar 1) aNil)))
    m_set_in_row_1)
def f_set_in_row : Fn := defn 3 7 m_set_in_row

def m_pins_without_feeds_b_L : ST := (sExtend 2 (eCall f_row_pins (aCons (eVar 0) (aCons (e2 vSub (eVar 3) (eC (.int 1))) (aCons (eCall f_set_in_row (aCons (eVar 0) (aCons (e2 vSub (eVar 3) (eC (.int 1))) (aCons (eVar 4) aNil)))) aNil)))))
def m_pins_without_feeds_b_F : ST := (sFor (iEnumV (eCall f_things_of (aCons (eVar 0) (aCons (eVar 1) aNil)))) (pTup [3, 4]) m_pins_without_feeds_b_L)
def m_pins_without_feeds_3 : ST := (sRet (eVar 2))
def m_pins_without_feeds_2 : ST := (sSeq (sFreeze 2) m_pins_without_feeds_3)
def m_pins_without_feeds_1 : ST := (sSeq m_pins_without_feeds_b_F
    m_pins_without_feeds_2)
def m_pins_without_feeds : ST := (sSeq (sOwn 2 (eArgs vLst aNil))
    m_pins_without_feeds_1)
def f_pins_without_feeds : Fn := defn 2 5 m_pins_without_feeds

def m_net_count : ST := (sRet (e2 vAdd (e2 vIx (eVar 0) (eC (.int 0))) (eArgs vLen (aCons (e2 vIx (eVar 0) (eC (.int 1))) aNil))))
def f_net_count : Fn := defn 1 1 m_net_count

def m_net_wires_ba_1 : ST := (sOnD 2 (sPutD 2 (eVar 4) (eArgs vTup (aCons (eArgs vMin (aCons (eVar 7) (aCons (eVar 6) aNil))) (aCons (eArgs vMax (aCons (eVar 8) (aCons (eVar 6) aNil))) (aCons (eArgs vMin (aCons (eVar 9) (aCons (eVar 5) aNil))) (aCons (eArgs vMax (aCons (eVar 10) (aCons (eVar 5) aNil))) aNil)))))))
def m_net_wires_b_L : ST := (sIf (bVal (e2 vIn (eVar 4) (eVar 2))) (sSeq (sPutN (pTup [7, 8, 9, 10]) (e2 vIx (eVar 2) (eVar 4)))
    m_net_wires_ba_1) (sOnD 2 (sPutD 2 (eVar 4) (eArgs vTup (aCons (eVar 6) (aCons (eVar 6) (aCons (eVar 5) (aCons (eVar 5) aNil))))))))
def m_net_wires_b_F : ST := (sFor (iSeq (eCall f_pins_without_feeds (aCons (eVar 0) (aCons (eVar 1) aNil)))) (pTup [4, 5, 6]) m_net_wires_b_L)
def m_net_wires_d_1 : ST := (sAppend 3 (e2 vAdd (e2 vSub (eVar 8) (eVar 7)) (e2 vMul (eC (.int 8)) (e2 vSub (eVar 10) (eVar 9)))))
def m_net_wires_d_L : ST := (sSeq (sPut (pTup [7, 8, 9, 10]) (e2 vIx (eVar 2) (eVar 4)))
    m_net_wires_d_1)
def m_net_wires_d_F : ST := (sFor (iRange1 (eCall f_net_count (aCons (eVar 0) aNil))) (pName 4) m_net_wires_d_L)
def m_net_wires_6 : ST := (sRet (eVar 3))
def m_net_wires_5 : ST := (sSeq (sFreeze 3) m_net_wires_6)
def m_net_wires_4 : ST := (sSeq m_net_wires_d_F
    m_net_wires_5)
def m_net_wires_3 : ST := (sSeq (sOwn 3 (eArgs vLst aNil))
    m_net_wires_4)
def m_net_wires_2 : ST := (sSeq (sFreezeD 2) m_net_wires_3)
def m_net_wires_1 : ST := (sSeq m_net_wires_b_F
    m_net_wires_2)
def m_net_wires : ST := (sSeq (sOwnD 2 (eC (.dct [])))
    m_net_wires_1)
def f_net_wires : Fn := defn 2 11 m_net_wires

def m_placement_wire_1 : ST := (sRet (eArgs vSum (aCons (eCall f_net_wires (aCons (eVar 0) (aCons (eVar 1) aNil))) aNil)))
def m_placement_wire : ST := (sSeq (sDrop (eCall f_check_placement (aCons (eVar 0) (aCons (eVar 1) aNil))))
    m_placement_wire_1)
def f_placement_wire : Fn := defn 2 2 m_placement_wire

def e__law_things_1 : EX := (eComp (iRange1 (e2 vIx (eVar 0) (eC (.int 0)))) [4] (pName 4) bYes (eArgs vTup (aCons (eC (.str "input")) (aCons (eVar 4) aNil))))
def e__law_things_2 : EX := (eComp (iSeq (eVar 3)) [5] (pName 5) bYes (eArgs vTup (aCons (eC (.str "cell")) (aCons (eVar 5) aNil))))
def m__law_things_b_L : ST := (sAppend 2 e__law_things_2)
def m__law_things_b_F : ST := (sFor (iSeq (eVar 1)) (pName 3) m__law_things_b_L)
def e__law_things_3 : EX := (eComp (iRange1 (eArgs vLen (aCons (e2 vIx (eVar 0) (eC (.int 2))) aNil))) [4] (pName 4) bYes (eArgs vTup (aCons (eC (.str "output")) (aCons (eVar 4) aNil))))
def m__law_things_4 : ST := (sRet (eVar 2))
def m__law_things_3 : ST := (sSeq (sFreeze 2) m__law_things_4)
def m__law_things_2 : ST := (sSeq (sAppend 2 e__law_things_3)
    m__law_things_3)
def m__law_things_1 : ST := (sSeq m__law_things_b_F
    m__law_things_2)
def m__law_things : ST := (sSeq (sOwn 2 (eArgs vLst (aCons e__law_things_1 aNil)))
    m__law_things_1)
def f__law_things : Fn := defn 2 6 m__law_things

def e__law_wire_1 : EX := (eComp (iSeq (eVar 0)) [4] (pName 4) (bVal (e2 vEq (e2 vIx (eVar 4) (eC (.int 0))) (eVar 1))) (e2 vIx (eVar 4) (eC (.int 2))))
def e__law_wire_2 : EX := (eComp (iSeq (eVar 0)) [4] (pName 4) (bVal (e2 vEq (e2 vIx (eVar 4) (eC (.int 0))) (eVar 1))) (e2 vIx (eVar 4) (eC (.int 1))))
def m__law_wire_2 : ST := (sRet (e2 vAdd (e2 vSub (eArgs vMax (aCons (eVar 2) aNil)) (eArgs vMin (aCons (eVar 2) aNil))) (e2 vMul (eC (.int 8)) (e2 vSub (eArgs vMax (aCons (eVar 3) aNil)) (eArgs vMin (aCons (eVar 3) aNil))))))
def m__law_wire_1 : ST := (sSeq (sSet 3 e__law_wire_2)
    m__law_wire_2)
def m__law_wire : ST := (sSeq (sSet 2 e__law_wire_1)
    m__law_wire_1)
def f__law_wire : Fn := defn 2 5 m__law_wire

end Lib
end Vm
end

/-! The generator of circuits with a head of four parts, four latches. -/
noncomputable section
namespace Vm
local macro_rules | `(tactic| simp! [$ts,*]) => `(tactic| simp only [Ok_seq, sSet, sSetN, sOwn, sOwnN, sAppend, sAppendN, sFreeze, sForget, sIf, sRet, sRetN, sNext, sPut, sDrop, sAug, sOn, sItem, sItemN, itemPut, sBreak, sCont, hide, Slot.hide, eVar, eC, e1, e2, eArgs, eAnd, eOr, eNot, eIf, eChain, eCall, eCut, partOf, aNil, aCons, asBl, bVal, bTruth, bAnd, bOr, bNot, bYes, truth, vAdd_int, vAdd_lst, vAdd_tup, vSub, vMul_int, vDiv_int, vMod_int, vPow18, vPow12, vPow11, vPow9, vPow6, vNeg, vLt, vLe, vGt, vGe, vEq, vNe, eqR_int, eqR_bl, eqR_str, vIsi, Val.isOb, vTup, vLst, vLen_lst, vLen_tup, vInt, vIs, vIsNot, vIx_lst, vIx_tup, vIx_dct, vListOf, vTupOf, vIpAdd, vMax2, vMax3, vMin2, Val.ty, Ty.sub, noLst_int, noLst_bl, noLst_str, noLst_non, noLst_tup, noLsts_nil, noLsts_cons, noLsts_ints, pName, pTup, pTupL, putAll, iSeq, itemsOf, iRange1, iRange2, DR.res, Res.ofOpt_some, Res.ofOpt_none, Res.bind_ok, Res.bind_exc, Res.bind_bad, Res.nx_ok, Res.flow_ok, Res.flow_bad, Flow.bind_next, Flow.bind_ret, Flow.bind_brk, Flow.bind_cont, Flow.bind_bad, Ok_next, Ok_ret, Ok_brk, Ok_cont, Ok_bind, Ok_cond, Ok_ite, Ok_ofOpt, flow_ite, bind_ite, nx_ite', flow_cond, bind_cond, cond_andV, cond_orV, cond_and, cond_or, atI_nat, atI_0, atI_1, atI_lit, startE, List.map_cons, List.map_nil, List.length_cons, List.length_nil, List.getElem?_cons_zero, List.getElem?_cons_succ, List.set_cons_zero, List.set_cons_succ, List.set_nil, List.replicate, List.append_nil, List.cons_append, List.nil_append, Nat.sub_self, Nat.reduceAdd, Nat.reduceSub, Nat.reduceLT, Nat.reduceLeDiff, Nat.reduceEqDiff, Int.reduceLE, Int.reduceLT, Int.reduceToNat, Int.reducePow, Int.reduceMul, Int.reduceAdd, Int.reduceSub, Int.reduceNeg, Int.cast_ofNat_Int, if_true, if_false, ↓reduceIte, reduceCtorEq, beq_self_eq_true, and_true, true_and, decide_eq_true_eq, decide_eq_false_iff_not, Bool.not_eq_true', Bool.not_eq_false', Bool.and_true, Bool.true_and, Bool.or_true, Bool.and_false, Bool.or_false, Bool.false_or, Bool.true_or, Bool.false_and, Bool.not_true, Bool.not_false, beq_iff_eq, forall_const, false_implies, Option.map_some, decide_true, decide_false, cond_true, cond_false, $ts,*])
namespace Lib
open PySem
/-! the loop over the cells -/
abbrev CE0P (ns : List Int) (most : Int) (hd : List Int) (cs : List Cell) (lats total : Nat) (s6 s8 s9 : Slot) : Env := [.sh (.lst (ns.map .int)), .sh (.int most), .sh (.lst (hd.map .int)), .oL (cs.map Cell.v), .sh (.int lats), .sh (.int total), s6, .un, s8, s9, .un]
def CInvP (ns : List Int) (most : Int) (hd : List Int) (n total i : Nat) (env : Env) : Prop := ∃ (cs : List Cell) (lats : Nat) (s6 s8 s9 : Slot), env = CE0P ns most hd cs lats total s6 s8 s9 ∧ cs.length = i ∧ GCells total n cs ∧ (latches cs).length = lats ∧ lats ≤ 4
theorem cell_stepP {R : Val → Prop} {B : Env → Prop} {ns : List Int} {most : Int} {hd : List Int} {n total i lats : Nat} {cs : List Cell} {ps : List Int} {k : Str} (hi : i < total - n) (hn : n ≤ total) (ht : total ≤ 46) (hc : cs.length = i) (hg : GCells total n cs) (hl : (latches cs).length = lats) (h4 : lats ≤ 4) (hp : ps.length = 4) (hk : KindP k (n + i) lats) :
    Ok (m__law_circuitP_e_2 (CE0P ns most hd cs lats total (.sh (.int ((n : Int) + (i : Int)))) (.sh (.lst (ps.map .int))) (.sh (.str k)))) (CInvP ns most hd n total (i + 1)) R B (CInvP ns most hd n total (i + 1)) := by
  have hcast : ((n : Int) + (i : Int)) = ((n + i : Nat) : Int) := by omega
  rw [hcast]
  have fin : ∀ (ins : List Nat) (lats' : Nat) (s6 s8 s9 : Slot), GCell total (n + i) ⟨k, ins, n + i⟩ → lats' = lats + (if k = kLatch then 1 else 0) → lats' ≤ 4 → ∀ env, env = CE0P ns most hd (cs ++ [⟨k, ins, n + i⟩]) lats' total s6 s8 s9 → CInvP ns most hd n total (i + 1) env := by
    intro ins lats' s6 s8 s9 g e h env he
    refine ⟨_, lats', s6, s8, s9, he, by rw [List.length_append, hc]; rfl, GCells.snoc hg (by rw [hc]; exact g), ?_, h⟩
    rw [latches_snoc, hl, e]
  have lcs : (cs.map Cell.v).length < 16777216 := by rw [List.length_map]; omega
  have lcs' : cs.length < 16777216 := by omega
  unfold m__law_circuitP_e_2
  rcases hk with ⟨rfl, h4'⟩ | ⟨hk, ha⟩
  · obtain ⟨ds, e1, d1, d2, d3⟩ := drawn_ok ps 1 total (by omega) (by omega) (by omega)
    have e1' : f__law_drawn [.lst (ps.map .int), .int 1, .int total] = .ret (.tup (ds.map iv)) := e1
    have q : (kLatch == Str.ofString "latch") = true := rfl
    simp! [CE0P, q]
    refine Then.mk ?_; unfold m__law_circuitP_ec_1; simp! [e1', List.length_map, lcs']
    refine fin ds (lats + 1) (.sh (.int (n + i : Nat))) (.sh (.lst (ps.map .int))) (.sh (.str kLatch)) ⟨.inl rfl, d1, rfl, fun h => absurd rfl h, d3, d2⟩ (by rw [if_pos rfl]) (by omega) _ ?_
    unfold CE0P
    rw [List.map_append]; rfl
  · simp only [plainKinds, List.mem_cons, List.not_mem_nil, or_false] at hk
    have small : ∀ k' : Str, k = k' → (k' == Str.ofString "latch") = false → k' ∈ plainKinds → k' ≠ kLatch → GCells total n cs → True := fun _ _ _ _ _ _ => trivial
    have big : ∀ (d : Str) (m : Nat), k ∈ plainKinds → k ≠ kLatch → (k == Str.ofString "latch") = false → (k == Str.ofString "not") = false → vInS (.str k) (.lst [.str "tie0", .str "tie1"]) = .ok (.bl false) → vIx (.str k) (.int (-1)) = .ok (.str d) → digitOf d = some (m : Int) → arity k = m → m ≤ 3 →
        Ok (m__law_circuitP_e_2 (CE0P ns most hd cs lats total (.sh (.int (n + i : Nat))) (.sh (.lst (ps.map .int))) (.sh (.str k)))) (CInvP ns most hd n total (i + 1)) R B (CInvP ns most hd n total (i + 1)) := by
      intro d m hkp hne q1 q2 q3 q4 q5 q6 q7
      obtain ⟨ds, e1, d1, d2, d3⟩ := drawn_ok ps m (n + i) (by omega) (by omega) (by omega)
      have q3' : vIn (.str k) (.lst [.str "tie0", .str "tie1"]) = .ok (.bl false) := q3
      have q1' : (k = Str.ofString "latch") = False := eq_false (by simpa using q1)
      have q2' : (k = Str.ofString "not") = False := eq_false (by simpa using q2)
      unfold m__law_circuitP_e_2
      simp! [CE0P, q1, q1', q2, q2', q3', q4, q5, e1, List.length_map, lcs']
      refine fin ds lats (.sh (.int (n + i : Nat))) (.sh (.lst (ps.map .int))) (.sh (.str k)) ⟨.inr hkp, by rw [d1, q6], rfl, fun _ => d3, fun x hx => by have := d3 x hx; omega, d2⟩ (by rw [if_neg hne]; rfl) h4 _ ?_
      unfold CE0P
      rw [List.map_append]; rfl
    have tie : ∀ _ : k = kTie0 ∨ k = kTie1,
        Ok (m__law_circuitP_e_2 (CE0P ns most hd cs lats total (.sh (.int (n + i : Nat))) (.sh (.lst (ps.map .int))) (.sh (.str k)))) (CInvP ns most hd n total (i + 1)) R B (CInvP ns most hd n total (i + 1)) := by
      intro hk
      have hne : k ≠ kLatch := by rcases hk with rfl | rfl <;> decide
      have hkp : k ∈ plainKinds := by rcases hk with rfl | rfl <;> decide
      have q1 : (k == Str.ofString "latch") = false := by rcases hk with rfl | rfl <;> rfl
      have q1' : (k = Str.ofString "latch") = False := eq_false (by simpa using q1)
      have q3' : vIn (.str k) (.lst [.str "tie0", .str "tie1"]) = .ok (.bl true) := by rcases hk with rfl | rfl <;> rfl
      have har : 0 = arity k := by rcases hk with rfl | rfl <;> rfl
      unfold m__law_circuitP_e_2
      simp! [CE0P, q1, q1', q3', List.length_map, lcs']
      refine fin [] lats (.sh (.int (n + i : Nat))) (.sh (.lst (ps.map .int))) (.sh (.str k)) ⟨.inr hkp, har, rfl, fun _ x hx => (nomatch hx), fun x hx => (nomatch hx), List.nodup_nil⟩ (by rw [if_neg hne]; rfl) h4 _ ?_
      unfold CE0P
      rw [List.map_append]; rfl
    have not : k = kNot →
        Ok (m__law_circuitP_e_2 (CE0P ns most hd cs lats total (.sh (.int (n + i : Nat))) (.sh (.lst (ps.map .int))) (.sh (.str k)))) (CInvP ns most hd n total (i + 1)) R B (CInvP ns most hd n total (i + 1)) := by
      rintro rfl
      have ha : 1 ≤ n + i := ha
      obtain ⟨ds, e1, d1, d2, d3⟩ := drawn_ok ps 1 (n + i) ha (by omega) (by omega)
      have e1' : f__law_drawn [.lst (ps.map .int), .int 1, .int (n + i : Nat)] = .ret (.tup (ds.map iv)) := e1
      have q1 : (kNot == Str.ofString "latch") = false := rfl
      have q1' : (kNot = Str.ofString "latch") = False := eq_false (by decide)
      have q2 : (kNot == Str.ofString "not") = true := rfl
      have q3' : vIn (.str kNot) (.lst [.str "tie0", .str "tie1"]) = .ok (.bl false) := rfl
      unfold m__law_circuitP_e_2
      simp! [CE0P, q1, q1', q2, q3', e1', List.length_map, lcs']
      refine fin ds lats (.sh (.int (n + i : Nat))) (.sh (.lst (ps.map .int))) (.sh (.str kNot)) ⟨.inr (show kNot ∈ plainKinds by decide), d1, rfl, fun _ => d3, fun x hx => by have := d3 x hx; omega, d2⟩ (by rw [if_neg (by decide)]; rfl) h4 _ ?_
      unfold CE0P
      rw [List.map_append]; rfl
    have back := @big
    unfold m__law_circuitP_e_2 at big tie not
    rcases hk with rfl | rfl | rfl | rfl | rfl | rfl | rfl
    · exact not rfl
    · exact big "2" 2 (by decide) (by decide) rfl rfl rfl rfl rfl rfl (by omega)
    · exact big "3" 3 (by decide) (by decide) rfl rfl rfl rfl rfl rfl (by omega)
    · exact big "2" 2 (by decide) (by decide) rfl rfl rfl rfl rfl rfl (by omega)
    · exact big "3" 3 (by decide) (by decide) rfl rfl rfl rfl rfl rfl (by omega)
    · exact tie (.inl rfl)
    · exact tie (.inr rfl)
theorem circ_restP {ns : List Int} (hns : ns.length ≤ 63) (most : Nat) (h1 : 1 ≤ most) (h40 : most ≤ 40) (n h6 h100 h100' : Nat) (hn : n ≤ 6) (hh : h6 < 6) (hb : h100' < 100) {N B T : Env → Prop} :
    Ok (m__law_circuitP_1 [.sh (.lst (ns.map .int)), .sh (.int most), .sh (.lst [.int n, .int h6, .int h100, .int h100']), .un, .un, .un, .un, .un, .un, .un, .un]) N (fun y => ∃ c : Circ, y = c.v ∧ c.Good ∧ c.n = n ∧ c.cells.length = min most (max 1 (ns.length - 3)) ∧ 0 < c.cells.length ∧ c.lat.length ≤ 4) B T := by
  obtain ⟨nc, hnc⟩ : ∃ nc : Nat, nc = min most (max 1 (ns.length - 3)) := ⟨_, rfl⟩
  have hnc1 : 1 ≤ nc := by omega
  have hnc40 : nc ≤ 40 := by omega
  have hmm : min (most : Int) (max 1 ((ns.length : Int) - 3)) = (nc : Int) := by omega
  unfold m__law_circuitP_1
  simp! []
  refine Then.mk ?_; unfold m__law_circuitP_2; simp! []
  refine Then.mk ?_; unfold m__law_circuitP_3; simp! [List.length_map, hmm]
  refine Then.mk ?_
  unfold m__law_circuitP_4
  simp only [Ok_seq]
  unfold m__law_circuitP_e_F
  have ct : (n : Int) + (nc : Int) = ((n + nc : Nat) : Int) := by omega
  rw [ct]
  have s1 := smallI_nat (n := n) (by omega)
  have s2 := smallI_nat (n := n + nc) (by omega)
  have e1 : ((n + nc : Nat) : Int) - (n : Int) = (nc : Int) := by omega
  refine Ok_for (xs := rangeL n nc) (by simp! [s1, s2, e1, Bool.and_self, Int.toNat_natCast]) ?_
  refine forL_ok _ (CInvP ns most [(n : Int), h6, h100, h100'] n (n + nc)) _ ⟨[], 0, .un, .un, .un, rfl, rfl, .nil _, rfl, by omega⟩ ?_ ?_
  · rintro i hi env ⟨cs, lats, s6, s8, s9, rfl, hc, hg, hl, h4⟩
    rw [range_len] at hi
    rw [range_get]
    refine ⟨CE0P ns most [(n : Int), h6, h100, h100'] cs lats (n + nc) (.sh (.int ((n : Int) + (i : Int)))) s8 s9, rfl, ?_⟩
    have ei : (3 : Int) + ((n : Int) + (i : Int)) - (n : Int) = ((3 + i : Nat) : Int) := by omega
    obtain ⟨z, ez⟩ := cell_k ns (3 + i)
    obtain ⟨ps, ep, hp⟩ := parts_k z [16, 100, 100, 100] (by decide) (by decide)
    have ep' : f__law_parts [.int z, .lst [.int 16, .int 100, .int 100, .int 100]] = .ret (.lst (ps.map .int)) := ep
    obtain ⟨k, ek, hk⟩ := kind_ok ps hp (n + i) lats
    have ek' : f__law_kind [.lst (ps.map .int), .int ((n : Int) + (i : Int)), .int lats] = .ret (.str k) := ek
    unfold m__law_circuitP_e_L
    simp! [CE0P, ei, ez, ep']
    refine Then.mk ?_; unfold m__law_circuitP_e_1; simp! [ek']
    exact Then.mk (cell_stepP (ns := ns) (most := most) (hd := [(n : Int), h6, h100, h100']) (by omega) (by omega) (by omega) hc hg hl h4 hp.1 hk)
  · rintro env ⟨cs, lats, s6, s8, s9, rfl, hc, hg, hl, h4⟩
    rw [range_len] at hc
    refine Then.mk ?_; unfold m__law_circuitP_5; simp! [CE0P]
    refine Then.mk ?_
    unfold m__law_circuitP_6
    simp only [Ok_seq]
    have o1 : ∀ t6 t8 t9 : Slot, e__law_circuitP_1 [.sh (.lst (ns.map .int)), .sh (.int most), .sh (.lst [.int n, .int h6, .int h100, .int h100']), .sh (.lst (cs.map Cell.v)), .sh (.int lats), .sh (.int (n + nc : Nat)), t6, .un, t8, t9, .un] = .ok (.lst (((List.range (1 + h6)).map fun k => (h100 + k * h100') % (n + nc)).map iv)) := by
      intro t6 t8 t9
      unfold e__law_circuitP_1
      have c1 : (1 : Int) + (h6 : Int) = ((1 + h6 : Nat) : Int) := by omega
      rw [eComp_all (fun k : Nat => Val.int (0 + (k : Int))) (fun k => iv ((h100 + k * h100') % (n + nc))) (List.range (1 + h6)) ?_ (by simp; omega)]
      · rw [List.map_map]; rfl
      · intro k hk
        refine ⟨_, rfl, ?_⟩
        rw [List.mem_range] at hk
        rw [Int.zero_add]
        have m1 : mulOk (k : Int) (h100' : Int) = true := mulOk_r _ _ (by omega)
        have c2 : ((h100 : Int) + (k : Int) * (h100' : Int)) % ((n + nc : Nat) : Int) = (((h100 + k * h100') % (n + nc) : Nat) : Int) := by
          push_cast; rfl
        simp! [wipeE, m1, c2]
        rw [if_pos (by omega)]
        rfl
      · refine (range1_ok (n := 1 + h6) (by simp! [c1]) (by omega)).trans ?_
        rfl
    have ol : ((((List.range (1 + h6)).map fun k => (h100 + k * h100') % (n + nc))).map iv).length ≤ 16777216 := by simp; omega
    simp! [o1]
    refine Then.mk ?_
    unfold m__law_circuitP_7
    have o2 : ∀ env : Env, env[4]? = some (.sh (.int lats)) → (eRange1 .tup (eVar 4)) env = .ok (.tup ((List.range lats).map iv)) := by
      intro env he
      unfold eRange1
      have : eVar 4 env = .ok (.int lats) := by unfold eVar; rw [he]
      rw [this]
      show rangeV .tup 0 (lats : Int) = _
      have sm := smallI_nat (n := lats) (by omega)
      have sz := smallI_nat (n := 0) (by omega)
      have bg : big (((lats : Int) - 0).toNat ≤ 16777216) = true := big_iff.mpr (by omega)
      have sz' : smallI 0 = true := sz
      unfold rangeV
      rw [sm, sz', bg]
      simp only [Bool.and_self, if_true, Int.sub_zero, Int.toNat_natCast]
      unfold rangeL
      congr 2
      refine List.map_congr_left fun x _ => ?_
      rw [Int.zero_add]; rfl
    simp! [o2]
    refine ⟨⟨n, cs, (List.range (1 + h6)).map fun k => (h100 + k * h100') % (n + nc), List.range lats⟩, rfl, ⟨hn, (by show cs.length ≤ 40; omega), ?_, (by show 0 < ((List.range (1 + h6)).map _).length; rw [List.length_map, List.length_range]; omega), (by show ((List.range (1 + h6)).map _).length ≤ 6; rw [List.length_map, List.length_range]; omega), ?_, (by show (List.range lats).length = _; rw [List.length_range]; exact hl.symm), (by show (List.range lats).length ≤ 4; rw [List.length_range]; omega)⟩, rfl, (by show cs.length = _; omega), (by show 0 < cs.length; omega), (by show (List.range lats).length ≤ 4; rw [List.length_range]; exact h4)⟩
    · show GCells (n + cs.length) n cs
      rw [hc]; exact hg
    · intro x hx
      rw [List.mem_map] at hx
      obtain ⟨k, _, rfl⟩ := hx
      show _ < n + cs.length
      rw [hc]
      exact Nat.mod_lt _ (by omega)
theorem circuitP_ok (ns : List Int) (hns : ns.length ≤ 63) (most : Nat) (h1 : 1 ≤ most) (h40 : most ≤ 40) : ∃ c : Circ, f__law_circuitP [.lst (ns.map .int), .int most] = .ret c.v ∧ c.Good ∧ c.cells.length ≤ most ∧ 0 < c.cells.length ∧ c.lat.length ≤ 4 := by
  suffices hh : ∃ y, f__law_circuitP [.lst (ns.map .int), .int most] = .ret y ∧ ∃ c : Circ, y = c.v ∧ c.Good ∧ c.cells.length ≤ most ∧ 0 < c.cells.length ∧ c.lat.length ≤ 4 by
    obtain ⟨y, h, c, rfl, h2⟩ := hh; exact ⟨c, h, h2⟩
  refine defn_some rfl ?_
  obtain ⟨z, ez⟩ := cell_k ns 0
  have ez : f__law_cell [.lst (ns.map .int), .int 0] = .ret (.int z) := ez
  obtain ⟨ps, ep, hp⟩ := parts_k z [7, 6, 100, 100] (by decide) (by decide)
  obtain ⟨p0, _, rfl, h0, hp⟩ := hp.cons
  obtain ⟨p1, _, rfl, hp1, hp⟩ := hp.cons
  obtain ⟨p2, _, rfl, hp2, hp⟩ := hp.cons
  obtain ⟨p3, _, rfl, hp3, hp⟩ := hp.cons
  obtain rfl := hp.nil'
  simp only [List.map_cons, List.map_nil] at ep
  obtain ⟨n, rfl⟩ := Int.eq_ofNat_of_zero_le h0.1
  obtain ⟨a, rfl⟩ := Int.eq_ofNat_of_zero_le hp1.1
  obtain ⟨b, rfl⟩ := Int.eq_ofNat_of_zero_le hp2.1
  obtain ⟨d, rfl⟩ := Int.eq_ofNat_of_zero_le hp3.1
  unfold m__law_circuitP
  simp! [ez, ep]
  exact Then.mk ((circ_restP hns most h1 h40 n a b d (by omega) (by omega) (by omega) (N := fun _ => ∃ c : Circ, Val.non = c.v ∧ c.Good ∧ c.cells.length ≤ most ∧ 0 < c.cells.length ∧ c.lat.length ≤ 4) (B := fun _ => False) (T := fun _ => False)).imp (fun _ h => h) (fun y ⟨c, q1, q2, q3, q4, q5, q6⟩ => ⟨c, q1, q2, by omega, q5, q6⟩) (fun _ h => h) (fun _ h => h))
end Lib
end Vm
end

/-! Comprehensions of two clauses. -/
noncomputable section
namespace Vm
/-- two clauses, each over a list -/
theorem compL2_all {α β : Type} {put put1 : Put} {it1 : EI} {own1 : List Nat} {el : EX} {env : Env} (enc : α → Val) (enc1 : α → β → Val) (bs : α → List β) (g : α → β → Val) : ∀ (xs : List α), (∀ x ∈ xs, ∃ e, put (enc x) env = .ok e ∧ it1 e = .ok ((bs x).map (enc1 x)) ∧ ∀ y ∈ bs x, ∃ e', put1 (enc1 x y) (wipeE e own1) = .ok e' ∧ el e' = .ok (g x y)) → compL2 put bYes it1 own1 put1 bYes el env (xs.map enc) = .ok (xs.flatMap fun x => (bs x).map (g x))
  | [], _ => rfl
  | x :: xs, h => by
    obtain ⟨e, h1, h2, h3⟩ := h x List.mem_cons_self
    have ih := compL2_all enc enc1 bs g xs fun y hy => h y (List.mem_cons_of_mem _ hy)
    rw [List.map_cons]
    unfold compL2
    rw [h1]
    simp only [Res.nx_ok, Res.bind_ok, bYes, cond_true, h2]
    have h4 := compL_all (put := put1) (el := el) (env := wipeE e own1) (enc1 x) (g x) (bs x) h3
    rw [h4]
    simp only [Res.bind_ok]
    rw [ih]
    rfl
theorem eComp2_all {α β : Type} {it : EI} {own : List Nat} {put put1 : Put} {it1 : EI} {own1 : List Nat} {el : EX} {env : Env} (enc : α → Val) (enc1 : α → β → Val) (bs : α → List β) (g : α → β → Val) (xs : List α) (hi : it env = .ok (xs.map enc)) (hl : (xs.flatMap fun x => (bs x).map (g x)).length ≤ 16777216) (h : ∀ x ∈ xs, ∃ e, put (enc x) (wipeE env own) = .ok e ∧ it1 e = .ok ((bs x).map (enc1 x)) ∧ ∀ y ∈ bs x, ∃ e', put1 (enc1 x y) (wipeE e own1) = .ok e' ∧ el e' = .ok (g x y)) : eComp2 it own put bYes it1 own1 put1 bYes el env = .ok (.lst (xs.flatMap fun x => (bs x).map (g x))) := by
  unfold eComp2
  rw [hi]
  simp only [Res.bind_ok]
  rw [compL2_all enc enc1 bs g xs h]
  simp only [Res.bind_ok]
  rw [if_pos hl]
end Vm
end

/-! Placements: their generator, the check. -/
noncomputable section
namespace Vm
local macro_rules | `(tactic| simp! [$ts,*]) => `(tactic| simp only [Ok_seq, sSet, sSetN, sOwn, sOwnN, sAppend, sAppendN, sFreeze, sForget, sIf, sRet, sRetN, sNext, sPut, sDrop, sAug, sOn, sItem, sItemN, itemPut, sBreak, sCont, hide, Slot.hide, eVar, eC, e1, e2, eArgs, eAnd, eOr, eNot, eIf, eChain, eCall, eCut, partOf, aNil, aCons, asBl, bVal, bTruth, bAnd, bOr, bNot, bYes, truth, vAdd_int, vAdd_lst, vAdd_tup, vSub, vMul_int, vDiv_int, vMod_int, vPow18, vPow12, vPow11, vPow9, vPow6, vNeg, vLt, vLe, vGt, vGe, vEq, vNe, eqR_int, eqR_bl, eqR_str, vIsi, Val.isOb, vTup, vLst, vLen_lst, vLen_tup, vInt, vIs, vIsNot, vIx_lst, vIx_tup, vIx_dct, vListOf, vTupOf, vIpAdd, vMax2, vMax3, vMin2, Val.ty, Ty.sub, noLst_int, noLst_bl, noLst_str, noLst_non, noLst_tup, noLsts_nil, noLsts_cons, noLsts_ints, pName, pTup, pTupL, putAll, iSeq, itemsOf, iRange1, iRange2, DR.res, Res.ofOpt_some, Res.ofOpt_none, Res.bind_ok, Res.bind_exc, Res.bind_bad, Res.nx_ok, Res.flow_ok, Res.flow_bad, Flow.bind_next, Flow.bind_ret, Flow.bind_brk, Flow.bind_cont, Flow.bind_bad, Ok_next, Ok_ret, Ok_brk, Ok_cont, Ok_bind, Ok_cond, Ok_ite, Ok_ofOpt, flow_ite, bind_ite, nx_ite', flow_cond, bind_cond, cond_andV, cond_orV, cond_and, cond_or, atI_nat, atI_0, atI_1, atI_lit, startE, List.map_cons, List.map_nil, List.length_cons, List.length_nil, List.getElem?_cons_zero, List.getElem?_cons_succ, List.set_cons_zero, List.set_cons_succ, List.set_nil, List.replicate, List.append_nil, List.cons_append, List.nil_append, Nat.sub_self, Nat.reduceAdd, Nat.reduceSub, Nat.reduceLT, Nat.reduceLeDiff, Nat.reduceEqDiff, Int.reduceLE, Int.reduceLT, Int.reduceToNat, Int.reducePow, Int.reduceMul, Int.reduceAdd, Int.reduceSub, Int.reduceNeg, Int.cast_ofNat_Int, if_true, if_false, ↓reduceIte, reduceCtorEq, beq_self_eq_true, and_true, true_and, decide_eq_true_eq, decide_eq_false_iff_not, Bool.not_eq_true', Bool.not_eq_false', Bool.and_true, Bool.true_and, Bool.or_true, Bool.and_false, Bool.or_false, Bool.false_or, Bool.true_or, Bool.false_and, Bool.not_true, Bool.not_false, beq_iff_eq, forall_const, false_implies, Option.map_some, decide_true, decide_false, cond_true, cond_false, $ts,*])
def rowV (r : List Nat) : Val := .lst (r.map iv)
def plV (pl : List (List Nat)) : Val := .lst (pl.map rowV)
def rowT (r : List Nat) : Tr := .l (r.map fun k => .v (iv k))
def plT (pl : List (List Nat)) : Tr := .l (pl.map rowT)
theorem vals_row (r : List Nat) : Tr.vals (r.map fun k => Tr.v (iv k)) = r.map iv := by
  induction r with
  | nil => rfl
  | cons k r ih => show iv k :: Tr.vals _ = _; rw [ih]; rfl
theorem rowT_val (r : List Nat) : (rowT r).val = rowV r := congrArg Val.lst (vals_row r)
theorem plT_val (pl : List (List Nat)) : (plT pl).val = plV pl := by
  refine congrArg Val.lst ?_
  induction pl with
  | nil => rfl
  | cons r pl ih => show (rowT r).val :: Tr.vals _ = _; rw [rowT_val, ih]; rfl
def insN (r : List Nat) (j k : Nat) : List Nat := r.take j ++ [k] ++ r.drop j
theorem insT_row (r : List Nat) (j k : Nat) : insT (r.map fun k => .v (iv k)) j (.v (iv k)) = (insN r j k).map fun k => .v (iv k) := by
  unfold insT insN
  rw [List.map_append, List.map_append, List.map_take, List.map_drop]
  rfl
theorem modL_set (u : Tr) : ∀ (ts : List Tr) (j : Nat), modL (fun _ => u) ts j = ts.set j u
  | [], _ => rfl
  | _ :: _, 0 => rfl
  | t :: ts, j + 1 => congrArg (t :: ·) (modL_set u ts j)
theorem insN_perm (r : List Nat) (j k : Nat) : (insN r j k).Perm (k :: r) := by
  unfold insN
  rw [List.append_assoc]
  refine (List.perm_middle (l₁ := r.take j) (a := k) (l₂ := r.drop j)).trans ?_
  rw [List.take_append_drop]
theorem flat_set : ∀ (pl : List (List Nat)) (r j k : Nat) (h : r < pl.length), (pl.set r (insN pl[r] j k)).flatten.Perm (k :: pl.flatten)
  | row :: pl, 0, j, k, h => by
    show (insN row j k ++ pl.flatten).Perm (k :: (row ++ pl.flatten))
    exact (insN_perm row j k).append_right _
  | row :: pl, r + 1, j, k, h => by
    have h' : r < pl.length := by simpa using h
    show (row ++ (pl.set r (insN (pl[r]'h') j k)).flatten).Perm (k :: (row ++ pl.flatten))
    refine ((flat_set pl r j k (by simpa using h)).append_left row).trans ?_
    exact List.perm_middle
theorem compT_nil {put : Put} {env : Env} : ∀ (xs : List Val), (∀ x ∈ xs, ∃ e, put x env = .ok e) → compT put bYes tNilT env xs = .ok (List.replicate xs.length (.l []))
  | [], _ => rfl
  | x :: xs, h => by
    obtain ⟨e, he⟩ := h x List.mem_cons_self
    have ih := compT_nil xs fun y hy => h y (List.mem_cons_of_mem _ hy)
    unfold compT
    rw [he]
    simp only [Res.nx_ok, Res.bind_ok, show bYes e = .ok true from rfl, cond_true, show tNilT e = .ok (.l []) from rfl]
    rw [ih]
    rfl
namespace Lib
open PySem
theorem parts_kk (c : Int) (sizes : List Int) (hs : ∀ n ∈ sizes, 0 < n ∧ n < 18446744073709551616) (hl : sizes.length ≤ 100) : ∃ ps : List Int, f__law_parts [.int c, .lst (sizes.map .int)] = .ret (.lst (ps.map .int)) ∧ Parts ps sizes := parts_k c sizes hs hl
theorem placement_ok (ns : List Int) (n : Nat) (hn : n ≤ 40) : ∃ pl : List (List Nat), f__law_placement [.lst (ns.map .int), .int n] = .ret (plV pl) ∧ pl.flatten.Perm (List.range n) ∧ 1 ≤ pl.length ∧ pl.length ≤ 6 := by
  suffices hh : ∃ y, f__law_placement [.lst (ns.map .int), .int n] = .ret y ∧ ∃ pl : List (List Nat), y = plV pl ∧ pl.flatten.Perm (List.range n) ∧ 1 ≤ pl.length ∧ pl.length ≤ 6 by
    obtain ⟨y, h, c, rfl, h2⟩ := hh; exact ⟨c, h, h2⟩
  refine defn_some rfl ?_
  obtain ⟨z, ez⟩ := cell_k ns 1
  have ez : f__law_cell [.lst (ns.map .int), .int 1] = .ret (.int z) := ez
  have hsz : ∀ x ∈ (6 : Int) :: (List.replicate n [(60 : Int), 41]).flatten, x = 6 ∨ x = 60 ∨ x = 41 := by
    intro x hx
    rcases List.mem_cons.mp hx with h | h
    · exact .inl h
    · rw [List.mem_flatten] at h
      obtain ⟨l, hl, hx⟩ := h
      rw [List.eq_of_mem_replicate hl] at hx
      simp only [List.mem_cons, List.not_mem_nil, or_false] at hx
      exact .inr hx
  have hlen : ((6 : Int) :: (List.replicate n [(60 : Int), 41]).flatten).length = 1 + 2 * n := by
    rw [List.length_cons, List.length_flatten, List.map_replicate, List.sum_replicate_nat]
    simp
    omega
  obtain ⟨ps, ep, hp⟩ := parts_k z ((6 : Int) :: (List.replicate n [(60 : Int), 41]).flatten) (fun x hx => by rcases hsz x hx with rfl | rfl | rfl <;> omega) (by rw [hlen]; omega)
  have hpl := hp.1
  rw [hlen] at hpl
  obtain ⟨p0, ps', rfl, h0, hp'⟩ := hp.cons
  obtain ⟨p0, rfl⟩ := Int.eq_ofNat_of_zero_le h0.1
  have sm := smallI_nat (n := n) (by omega)
  have fl : (List.replicate n [Val.int 60, .int 41]).flatten = ((List.replicate n [(60 : Int), 41]).flatten).map .int := by
    rw [List.map_flatten, List.map_replicate]; rfl
  have hl2 : ((List.replicate n [(60 : Int), 41]).flatten).length = 2 * n := by rw [List.length_cons] at hlen; omega
  have hR : vRep (.lst [.int 60, .int 41]) (.int n) = .ok (.lst (((List.replicate n [(60 : Int), 41]).flatten).map .int)) := by
    show (if smallI n = true ∧ 2 * (n : Int).toNat ≤ 16777216 then Res.ok (Val.lst (List.replicate (n : Int).toNat [Val.int 60, .int 41]).flatten) else .bad) = _
    rw [Int.toNat_natCast, if_pos ⟨sm, by omega⟩, fl]
  have hc : (1 + 2 * n ≤ 16777216) = True := eq_true (by omega)
  simp only [List.map_cons] at ep
  unfold m__law_placement
  simp! [ez, hR, List.length_map, hl2, hc, ep]
  refine Then.mk ?_
  unfold m__law_placement_1
  rw [Ok_seq]
  let PS : List Val := .int p0 :: ps'.map .int
  have lPS : PS.length = 1 + 2 * n := by show (ps'.map Val.int).length + 1 = _; rw [List.length_map]; rw [List.length_cons] at hpl; exact hpl
  let E : List (List Nat) → Slot → Slot → Env := fun pl s4 s5 => [.sh (.lst (ns.map .int)), .sh (.int n), .sh (.lst PS), .oT (plT pl), s4, s5]
  have e1 : e__law_placement_1 [.sh (.lst (ns.map .int)), .sh (.int n), .sh (.lst PS), .un, .un, .un] = .ok (plT (List.replicate (1 + p0) [])) := by
    unfold e__law_placement_1 eCompT
    have hi : (iRange1 (e2 vAdd (eC (.int 1)) (e2 vIx (eVar 2) (eC (.int 0))))) [.sh (.lst (ns.map .int)), .sh (.int n), .sh (.lst PS), .un, .un, .un] = .ok (rangeL 0 (1 + p0)) := by
      refine range1_ok ?_ (by omega)
      have : (1 : Int) + (p0 : Int) = ((1 + p0 : Nat) : Int) := by omega
      simp! [PS, this]
    rw [hi]
    simp only [Res.bind_ok]
    rw [if_pos (by rw [range_len]; omega), compT_nil (put := pName 4) _ (fun x _ => ⟨_, rfl⟩), range_len]
    simp only [Res.bind_ok]
    unfold plT
    rw [List.map_replicate]
    rfl
  have es : sOwnT 3 e__law_placement_1 [.sh (.lst (ns.map .int)), .sh (.int n), .sh (.lst PS), .un, .un, .un] = .next (E (List.replicate (1 + p0) []) .un .un) := by
    show ((e__law_placement_1 [.sh (.lst (ns.map .int)), .sh (.int n), .sh (.lst PS), .un, .un, .un]).flow _ _) = _
    rw [e1]
    rfl
  show Ok (sOwnT 3 e__law_placement_1 [.sh (.lst (ns.map .int)), .sh (.int n), .sh (.lst PS), .un, .un, .un]) _ _ _ _
  rw [es, Ok_next]
  refine Then.mk ?_
  unfold m__law_placement_2 m__law_placement_c_F
  rw [Ok_seq]
  refine Ok_for (xs := rangeL 0 n) (range1_ok (by simp! [E]) (by omega)) ?_
  refine forL_ok _ (fun i env => ∃ (pl : List (List Nat)) (s4 s5 : Slot), env = E pl s4 s5 ∧ pl.flatten.Perm (List.range i) ∧ pl.length = 1 + p0) _ ⟨List.replicate (1 + p0) [], .un, .un, rfl, by simp, by simp⟩ ?_ ?_
  · rintro i hi env ⟨pl, s4, s5, rfl, hperm, hplen⟩
    rw [range_len] at hi
    rw [range_get, Int.zero_add]
    refine ⟨E pl (.sh (.int i)) s5, rfl, ?_⟩
    obtain ⟨a, ha⟩ : ∃ a, PS[1 + 2 * i]? = some (.int a) := by
      have : 1 + 2 * i < PS.length := by omega
      show ∃ a, (((p0 : Int) :: ps').map Val.int)[1 + 2 * i]? = some (.int a)
      rw [List.getElem?_map]
      have h2 : 1 + 2 * i < ((p0 : Int) :: ps').length := by rw [hpl]; omega
      exact ⟨_, by rw [List.getElem?_eq_getElem h2]; rfl⟩
    obtain ⟨b, hb⟩ : ∃ b, PS[2 + 2 * i]? = some (.int b) := by
      have : 2 + 2 * i < PS.length := by omega
      show ∃ a, (((p0 : Int) :: ps').map Val.int)[2 + 2 * i]? = some (.int a)
      rw [List.getElem?_map]
      have h2 : 2 + 2 * i < ((p0 : Int) :: ps').length := by rw [hpl]; omega
      exact ⟨_, by rw [List.getElem?_eq_getElem h2]; rfl⟩
    have hm0 := Int.emod_nonneg a (show ((pl.length : Nat) : Int) ≠ 0 by omega)
    have hm1 := Int.emod_lt_of_pos a (show (0 : Int) < ((pl.length : Nat) : Int) by omega)
    obtain ⟨r, hr⟩ := Int.eq_ofNat_of_zero_le hm0
    rw [hr] at hm1
    have hrl : r < pl.length := by omega
    have hk0 := Int.emod_nonneg b (show (((pl[r]).length + 1 : Nat) : Int) ≠ 0 by omega)
    have hk1 := Int.emod_lt_of_pos b (show (0 : Int) < (((pl[r]).length + 1 : Nat) : Int) by omega)
    obtain ⟨j, hj⟩ := Int.eq_ofNat_of_zero_le hk0
    rw [hj] at hk1
    have hrowl : (pl[r]).length ≤ 40 := by
      have h1 : (pl[r]).length ≤ pl.flatten.length := (List.sublist_flatten_of_mem (List.getElem_mem hrl)).length_le
      rw [hperm.length_eq, List.length_range] at h1
      omega
    have hpv : (plT pl).val = plV pl := plT_val pl
    have m2 : mulOk 2 (i : Int) = true := mulOk_l _ _ (by omega)
    have c1 : (1 : Int) + 2 * (i : Int) = ((1 + 2 * i : Nat) : Int) := by omega
    have c2 : (2 : Int) + 2 * (i : Int) = ((2 + 2 * i : Nat) : Int) := by omega
    have pp : (0 : Int) < (pl.length : Int) := by omega
    have q1 : (e2 vMod (eArgs vInt (aCons (e2 vIx (eVar 2) (e2 vAdd (eC (.int 1)) (e2 vMul (eC (.int 2)) (eVar 4)))) aNil)) (eArgs vLen (aCons (eVar 3) aNil))) (E pl (.sh (.int i)) s5) = .ok (.int r) := by
      simp! [E, m2, c1, ha, hpv, plV, List.length_map, pp, hr]
    have q2 : plAt (.ix (.s 3) (e2 vMod (eArgs vInt (aCons (e2 vIx (eVar 2) (e2 vAdd (eC (.int 1)) (e2 vMul (eC (.int 2)) (eVar 4)))) aNil)) (eArgs vLen (aCons (eVar 3) aNil)))) (E pl (.sh (.int i)) s5) = .ok (3, [.ix r], rowT pl[r]) := by
      have hp3 : plAt (.s 3) (E pl (.sh (.int i)) s5) = .ok (3, [], plT pl) := rfl
      unfold plAt
      rw [hp3, q1]
      have st : stpOf (plT pl) (.int r) = .ok (.ix r) := by
        show (match ixNat (pl.map rowT).length (r : Int) with | some j => Res.ok (Stp.ix j) | none => .bad) = _
        rw [List.length_map, ixNat_nat _ _ hrl]
      have gt : getAt [.ix r] (plT pl) = some (rowT pl[r]) := by
        show (match (pl.map rowT)[r]? with | some t => getAt [] t | none => none) = _
        rw [List.getElem?_map, List.getElem?_eq_getElem hrl]
        rfl
      simp only [Res.bind_ok, Res.nx_ok, st, gt]
      rfl
    have q3 : (e2 vMod (eArgs vInt (aCons (e2 vIx (eVar 2) (e2 vAdd (eC (.int 2)) (e2 vMul (eC (.int 2)) (eVar 4)))) aNil)) (e2 vAdd (eArgs vLen (aCons (eVar 5) aNil)) (eC (.int 1)))) ((E pl (.sh (.int i)) s5).set 5 (.sh (.lst (Tr.vals (pl[r].map fun k => .v (iv k)))))) = .ok (.int j) := by
      have c3 : ((pl[r]).length : Int) + 1 = (((pl[r]).length + 1 : Nat) : Int) := by omega
      have pp : (0 : Int) < (((pl[r]).length + 1 : Nat) : Int) := by omega
      rw [vals_row]
      simp! [E, m2, c2, hb, List.length_map, c3, pp, hj]
    have q4 : (eVar 4) ((E pl (.sh (.int i)) s5).set 5 (.sh (.lst (Tr.vals (pl[r].map fun k => .v (iv k)))))) = .ok (.int i) := rfl
    have sj := smallI_nat (n := j) (by omega)
    have put : putPl (E pl (.sh (.int i)) s5) 3 [.ix r] (.l (insT (pl[r].map fun k => .v (iv k)) j (.v (.int i)))) = .next (E (pl.set r (insN pl[r] j i)) (.sh (.int i)) s5) := by
      have hi : insT (pl[r].map fun k => Tr.v (iv k)) j (.v (.int i)) = (insN pl[r] j i).map fun k => .v (iv k) := insT_row pl[r] j i
      rw [hi]
      show Flow.next ((E pl (.sh (.int i)) s5).set 3 (.oT (.l (modL (setAt [] (rowT (insN pl[r] j i))) (pl.map rowT) r)))) = _
      have hm : modL (setAt [] (rowT (insN pl[r] j i))) (pl.map rowT) r = (pl.set r (insN pl[r] j i)).map rowT := by
        rw [List.map_set]
        exact modL_set _ _ _
      rw [hm]
      rfl
    have main : sAlIns 5 (.ix (.s 3) (e2 vMod (eArgs vInt (aCons (e2 vIx (eVar 2) (e2 vAdd (eC (.int 1)) (e2 vMul (eC (.int 2)) (eVar 4)))) aNil)) (eArgs vLen (aCons (eVar 3) aNil)))) (e2 vMod (eArgs vInt (aCons (e2 vIx (eVar 2) (e2 vAdd (eC (.int 2)) (e2 vMul (eC (.int 2)) (eVar 4)))) aNil)) (e2 vAdd (eArgs vLen (aCons (eVar 5) aNil)) (eC (.int 1)))) (eVar 4) (E pl (.sh (.int i)) s5) = .next (E (pl.set r (insN pl[r] j i)) (.sh (.int i)) .un) := by
      unfold sAlIns
      rw [q2]
      simp only [Res.nx_ok, Res.flow_ok, rowT]
      rw [q3, q4]
      simp only [Res.nx_ok, Res.flow_ok]
      rw [if_pos ⟨⟨by omega, sj, by rw [List.length_map]; omega⟩, rfl, by show 5 < 6; omega, by decide⟩, Int.toNat_natCast, put]
      rfl
    unfold m__law_placement_c_L
    rw [Ok_seq, main, Ok_next]
    refine Then.mk ?_
    show Ok (Flow.next _) _ _ _ _
    rw [Ok_next]
    refine ⟨_, _, _, rfl, ?_, by rw [List.length_set]; exact hplen⟩
    refine (flat_set pl r j i hrl).trans ?_
    rw [List.range_succ]
    exact (hperm.cons i).trans (List.perm_append_comm (l₁ := [i]) (l₂ := List.range i))
  · rintro env ⟨pl, s4, s5, rfl, hperm, hplen⟩
    rw [range_len] at hperm
    refine Then.mk ?_
    unfold m__law_placement_3
    rw [Ok_seq]
    show Ok (Flow.next [.sh (.lst (ns.map .int)), .sh (.int n), .sh (.lst PS), .sh (plT pl).val, s4, s5]) _ _ _ _
    rw [Ok_next, plT_val]
    refine Then.mk ?_; unfold m__law_placement_4; simp! []
    exact ⟨pl, rfl, hperm, by omega, by omega⟩
end Lib
end Vm
end

/-! Levels: the texts. -/
noncomputable section
namespace Vm
namespace Lib
open PySem
def m__law_network_d_1 : ST := (sIf (bVal (e2 vLt (e2 vIx (eVar 7) (eC (.int 0))) (eC (.int 4)))) (sOnD 3 (sPutD 3 (eVar 4) (e2 vIx (eArgs vLst (aCons (eC (.int 0)) (aCons (eC (.int 1)) (aCons (eC (.int 3)) (aCons (e2 vMod (eArgs vInt (aCons (eVar 4) aNil)) (eC (.int 2))) aNil))))) (e2 vIx (eVar 7) (eC (.int 0)))))) sNext)
def m__law_network_d_L : ST := (sSeq (sSet 7 (eCall f__law_parts (aCons (e2 vAdd (eCall f__law_cell (aCons (eVar 0) (aCons (eC (.int 1)) aNil))) (eVar 4)) (aCons (eArgs vLst (aCons (eC (.int 7)) aNil)) aNil))))
    m__law_network_d_1)
def m__law_network_d_F : ST := (sFor (iRange1 (eVar 2)) (pName 4) m__law_network_d_L)
def m__law_network_f_1 : ST := (sAppend 5 (eArgs vTup (aCons (e2 vIx (eArgs vLst (aCons (eC (.str "n")) (aCons (eC (.str "p")) aNil))) (e2 vIx (eVar 7) (eC (.int 0)))) (aCons (e2 vIx (eVar 7) (eC (.int 1))) (aCons (e2 vIx (eVar 7) (eC (.int 2))) (aCons (e2 vIx (eVar 7) (eC (.int 3))) aNil))))))
def m__law_network_f_L : ST := (sSeq (sSet 7 (eCall f__law_parts (aCons (eCall f__law_cell (aCons (eVar 0) (aCons (e2 vAdd (eC (.int 2)) (eVar 6)) aNil))) (aCons (eArgs vLst (aCons (eC (.int 2)) (aCons (eVar 2) (aCons (eVar 2) (aCons (eVar 2) aNil))))) aNil))))
    m__law_network_f_1)
def m__law_network_f_F : ST := (sFor (iRange1 (eArgs vMin (aCons (eC (.int 16)) (aCons (eArgs vMax (aCons (eC (.int 0)) (aCons (e2 vSub (eArgs vLen (aCons (eVar 0) aNil)) (eC (.int 2))) aNil))) aNil)))) (pName 6) m__law_network_f_L)
def m__law_network_8 : ST := (sRet (eArgs vTup (aCons (eVar 2) (aCons (eVar 5) (aCons (eVar 3) aNil)))))
def m__law_network_7 : ST := (sSeq (sFreeze 5) m__law_network_8)
def m__law_network_6 : ST := (sSeq m__law_network_f_F
    m__law_network_7)
def m__law_network_5 : ST := (sSeq (sOwn 5 (eArgs vLst aNil))
    m__law_network_6)
def m__law_network_4 : ST := (sSeq (sFreezeD 3) m__law_network_5)
def m__law_network_3 : ST := (sSeq m__law_network_d_F
    m__law_network_4)
def m__law_network_2 : ST := (sSeq (sOwnD 3 (eC (.dct [])))
    m__law_network_3)
def m__law_network_1 : ST := (sSeq (sSet 2 (e2 vAdd (eC (.int 1)) (e2 vIx (eVar 1) (eC (.int 0)))))
    m__law_network_2)
def m__law_network : ST := (sSeq (sSet 1 (eCall f__law_parts (aCons (eCall f__law_cell (aCons (eVar 0) (aCons (eC (.int 0)) aNil))) (aCons (eArgs vLst (aCons (eC (.int 12)) (aCons (eC (.int 4)) aNil))) aNil))))
    m__law_network_1)
def f__law_network : Fn := defn 1 8 m__law_network

def m_check_nodes_b_L : ST := (sExtend 3 (eArgs vLst (aCons (eVar 6) (aCons (eVar 7) (aCons (eVar 8) aNil)))))
def m_check_nodes_b_F : ST := (sFor (iSeq (eVar 1)) (pTup [5, 6, 7, 8]) m_check_nodes_b_L)
def m_check_nodes_c_L : ST := (sIf (bNot (bVal (eChain vLe vLt (eC (.int 0)) (eVar 4) (eVar 0)))) (sRaise ⟨"NoSuchThing", []⟩) sNext)
def m_check_nodes_c_F : ST := (sFor (iSeq (eVar 3)) (pName 4) m_check_nodes_c_L)
def m_check_nodes_2 : ST := (sSeq (sFreeze 3) m_check_nodes_c_F)
def m_check_nodes_1 : ST := (sSeq m_check_nodes_b_F
    m_check_nodes_2)
def m_check_nodes : ST := (sSeq (sOwn 3 (eArgs vListOfD (aCons (eVar 2) aNil)))
    m_check_nodes_1)
def f_check_nodes : Fn := defn 3 9 m_check_nodes

def m_switch_state_1 : ST := (sRet (eIf (bVal (e2 vEq (e2 vEq (eVar 0) (eC (.str "n"))) (e2 vEq (eVar 1) (eC (.int 1))))) (eC (.str "on")) (eC (.str "off"))))
def m_switch_state : ST := (sSeq (sIf (bAnd (bVal (e2 vNe (eVar 1) (eC (.int 0)))) (bVal (e2 vNe (eVar 1) (eC (.int 1))))) (sRet (eC (.str "undecided"))) sNext)
    m_switch_state_1)
def f_switch_state : Fn := defn 2 2 m_switch_state

def m_neighbours_over_ba_1 : ST := (sAtSetd (.s 3) (eVar 7) (eVar 6))
def m_neighbours_over_b_L : ST := (sIf (bVal (e2 vIn (eCall f_switch_state (aCons (eVar 4) (aCons (e2 vIx (eVar 1) (eVar 5)) aNil))) (eVar 2))) (sSeq (sAtSetd (.s 3) (eVar 6) (eVar 7))
    m_neighbours_over_ba_1) sNext)
def m_neighbours_over_b_F : ST := (sFor (iSeq (eVar 0)) (pTup [4, 5, 6, 7]) m_neighbours_over_b_L)
def m_neighbours_over_3 : ST := (sRet (eVar 3))
def m_neighbours_over_2 : ST := (sSeq (sFreezeT 3) m_neighbours_over_3)
def m_neighbours_over_1 : ST := (sSeq m_neighbours_over_b_F
    m_neighbours_over_2)
def m_neighbours_over : ST := (sSeq (sOwnT 3 tNilD)
    m_neighbours_over_1)
def f_neighbours_over : Fn := defn 3 8 m_neighbours_over

def e_reached_1 : EX := (eComp (itK 1) [5] (pName 5) (bVal (e2 vIn (e2 vIx (eVar 1) (eVar 5)) (eVar 2))) (eVar 5))
def m_reached_cba_1 : ST := (sAppend 4 (eVar 6))
def m_reached_cb_L : ST := (sIf (bAnd (bVal (e2 vNotIn (eVar 6) (eVar 1))) (bVal (e2 vNotIn (eVar 6) (eVar 3)))) (sSeq (sOnD 3 (sPutD 3 (eVar 6) (eC (.bl true))))
    m_reached_cba_1) sNext)
def m_reached_cb_F : ST := (sFor (iSeq (eGet2 (eVar 0) (eVar 5) (eArgs vLst aNil))) (pName 6) m_reached_cb_L)
def m_reached_c_L : ST := (sSeq (sPopTo 4 5)
    m_reached_cb_F)
def m_reached_c_F : ST := (sWhile 100000 (bTruth (eVar 4)) m_reached_c_L)
def m_reached_4 : ST := (sRet (eVar 3))
def m_reached_3 : ST := (sSeq (sFreezeD 3) m_reached_4)
def m_reached_2 : ST := (sSeq m_reached_c_F
    m_reached_3)
def m_reached_1 : ST := (sSeq (sLockS 1 (sOwn 4 e_reached_1))
    m_reached_2)
def m_reached : ST := (sSeq (sOwnD 3 (eC (.dct [])))
    m_reached_1)
def f_reached : Fn := defn 3 7 m_reached

def m_level_of_3 : ST := (sRet (eC (.int 2)))
def m_level_of_2 : ST := (sSeq (sIf (bOr (bTruth (eVar 2)) (bTruth (eVar 3))) (sRet (eC (.int 3))) sNext)
    m_level_of_3)
def m_level_of_1 : ST := (sSeq (sIf (bAnd (bTruth (eVar 1)) (bNot (bTruth (eVar 2)))) (sRet (eC (.int 1))) sNext)
    m_level_of_2)
def m_level_of : ST := (sSeq (sIf (bAnd (bTruth (eVar 0)) (bNot (bTruth (eVar 3)))) (sRet (eC (.int 0))) sNext)
    m_level_of_1)
def f_level_of : Fn := defn 4 4 m_level_of

def m_next_levels_h_L : ST := (sIf (bVal (e2 vIn (eVar 10) (eVar 1))) (sAppend 9 (eVar 11)) (sAppend 9 (eCall f_level_of (aCons (e2 vIn (eVar 10) (eVar 5)) (aCons (e2 vIn (eVar 10) (eVar 6)) (aCons (e2 vIn (eVar 10) (eVar 7)) (aCons (e2 vIn (eVar 10) (eVar 8)) aNil)))))))
def m_next_levels_h_F : ST := (sFor (iEnumV (eVar 2)) (pTup [10, 11]) m_next_levels_h_L)
def m_next_levels_9 : ST := (sRet (eVar 9))
def m_next_levels_8 : ST := (sSeq (sFreeze 9) m_next_levels_9)
def m_next_levels_7 : ST := (sSeq m_next_levels_h_F
    m_next_levels_8)
def m_next_levels_6 : ST := (sSeq (sOwn 9 (eArgs vLst aNil))
    m_next_levels_7)
def m_next_levels_5 : ST := (sSeq (sSet 8 (eCall f_reached (aCons (eVar 4) (aCons (eVar 1) (aCons (eArgs vTup (aCons (eC (.int 1)) (aCons (eC (.int 3)) aNil))) aNil)))))
    m_next_levels_6)
def m_next_levels_4 : ST := (sSeq (sSet 7 (eCall f_reached (aCons (eVar 4) (aCons (eVar 1) (aCons (eArgs vTup (aCons (eC (.int 0)) (aCons (eC (.int 3)) aNil))) aNil)))))
    m_next_levels_5)
def m_next_levels_3 : ST := (sSeq (sSet 6 (eCall f_reached (aCons (eVar 3) (aCons (eVar 1) (aCons (eArgs vTup (aCons (eC (.int 1)) aNil)) aNil)))))
    m_next_levels_4)
def m_next_levels_2 : ST := (sSeq (sSet 5 (eCall f_reached (aCons (eVar 3) (aCons (eVar 1) (aCons (eArgs vTup (aCons (eC (.int 0)) aNil)) aNil)))))
    m_next_levels_3)
def m_next_levels_1 : ST := (sSeq (sSet 4 (eCall f_neighbours_over (aCons (eVar 0) (aCons (eVar 2) (aCons (eArgs vTup (aCons (eC (.str "on")) (aCons (eC (.str "undecided")) aNil))) aNil)))))
    m_next_levels_2)
def m_next_levels : ST := (sSeq (sSet 3 (eCall f_neighbours_over (aCons (eVar 0) (aCons (eVar 2) (aCons (eArgs vTup (aCons (eC (.str "on")) aNil)) aNil)))))
    m_next_levels_1)
def f_next_levels : Fn := defn 3 12 m_next_levels

def e_settle_1 : EX := (eComp (iRange1 (eVar 0)) [5] (pName 5) bYes (eGet2 (eVar 2) (eVar 5) (eC (.int 3))))
def m_settle_d_1 : ST := (sSet 4 (eCall f_next_levels (aCons (eVar 1) (aCons (eVar 2) (aCons (eVar 3) aNil)))))
def m_settle_d_L : ST := (sSeq (sSet 3 (eVar 4))
    m_settle_d_1)
def m_settle_d_F : ST := (sWhile 100000 (bVal (e2 vNe (eVar 4) (eVar 3))) m_settle_d_L)
def m_settle_4 : ST := (sRet (eVar 3))
def m_settle_3 : ST := (sSeq m_settle_d_F
    m_settle_4)
def m_settle_2 : ST := (sSeq (sSet 4 (eCall f_next_levels (aCons (eVar 1) (aCons (eVar 2) (aCons (eVar 3) aNil)))))
    m_settle_3)
def m_settle_1 : ST := (sSeq (sSet 3 e_settle_1)
    m_settle_2)
def m_settle : ST := (sSeq (sDrop (eCall f_check_nodes (aCons (eVar 0) (aCons (eVar 1) (aCons (eVar 2) aNil)))))
    m_settle_1)
def f_settle : Fn := defn 3 6 m_settle

end Lib
end Vm
end

/-! Dicts whose keys are numbers. -/
noncomputable section
namespace Vm
def kvsN (ks : List Nat) (f : Nat → Val) : List (Key × Val) := ks.map fun (n : Nat) => ((.inl (n : Int) : Key), f n)
theorem inl_nat {m n : Nat} : ((Sum.inl (m : Int) : Key) = Sum.inl (n : Int)) ↔ m = n := ⟨fun h => by injection h with h; omega, fun h => by rw [h]⟩
theorem kvsN_get (ks : List Nat) (f : Nat → Val) (n : Nat) : getV (kvsN ks f) (.inl (n : Int)) = if n ∈ ks then some (f n) else none := by
  induction ks with
  | nil => rfl
  | cons m ks ih =>
    unfold getV kvsN at ih ⊢
    rw [List.map_cons, List.find?_cons]
    by_cases h : m = n
    · subst h
      simp
    · have : decide ((Sum.inl (m : Int) : Key) = Sum.inl (n : Int)) = false := decide_eq_false fun q => h (inl_nat.mp q)
      simp only [this]
      rw [ih]
      have : (n ∈ m :: ks) = (n ∈ ks) := by rw [List.mem_cons]; exact propext ⟨fun q => q.elim (fun z => absurd z.symm h) id, .inr⟩
      simp only [this]
theorem kvsN_any (ks : List Nat) (f : Nat → Val) (n : Nat) : ((kvsN ks f).any fun kv => decide (kv.1 = .inl (n : Int))) = decide (n ∈ ks) := by
  rw [Bool.eq_iff_iff, List.any_eq_true, decide_eq_true_iff]
  unfold kvsN
  constructor
  · rintro ⟨kv, hm, hk⟩
    obtain ⟨m, hm2, rfl⟩ := List.mem_map.mp hm
    rw [decide_eq_true_iff] at hk
    rw [← inl_nat.mp hk]; exact hm2
  · intro h
    exact ⟨_, List.mem_map.mpr ⟨n, h, rfl⟩, by simp⟩
def updN (f : Nat → Val) (n : Nat) (v : Val) : Nat → Val := fun m => if m = n then v else f m
theorem kvsN_put (ks : List Nat) (f : Nat → Val) (n : Nat) (v : Val) : putV (kvsN ks f) (.inl (n : Int)) v = kvsN (if n ∈ ks then ks else ks ++ [n]) (updN f n v) := by
  unfold putV
  rw [kvsN_any]
  by_cases h : n ∈ ks
  · rw [decide_eq_true h, if_pos rfl, if_pos h]
    unfold kvsN
    rw [List.map_map]
    apply List.map_congr_left
    intro m _
    show (if (Sum.inl (m : Int) : Key) = Sum.inl (n : Int) then _ else _) = ((Sum.inl (m : Int) : Key), updN f n v m)
    unfold updN
    by_cases q : m = n
    · subst q; rw [if_pos rfl, if_pos rfl]
    · rw [if_neg (fun z => q (inl_nat.mp z)), if_neg q]
  · rw [decide_eq_false h, if_neg (by decide), if_neg h]
    unfold kvsN
    rw [List.map_append]
    congr 1
    · apply List.map_congr_left
      intro m hm
      unfold updN
      rw [if_neg (fun z : m = n => h (z ▸ hm))]
    · show _ = [((Sum.inl (n : Int) : Key), updN f n v n)]
      unfold updN
      rw [if_pos rfl]
theorem kvsN_keys (ks : List Nat) (f : Nat → Val) : ((kvsN ks f).map fun kv => keyVal kv.1) = ks.map iv := by
  unfold kvsN
  rw [List.map_map]
  rfl
theorem kvsN_congr {ks : List Nat} {f g : Nat → Val} (h : ∀ n ∈ ks, f n = g n) : kvsN ks f = kvsN ks g := by
  unfold kvsN
  exact List.map_congr_left fun n hn => by rw [h n hn]
theorem kvsN_len (ks : List Nat) (f : Nat → Val) : (kvsN ks f).length = ks.length := List.length_map _
theorem in_kvsN (ks : List Nat) (f : Nat → Val) (n : Nat) : vIn (iv n) (.dct (kvsN ks f)) = .ok (.bl (decide (n ∈ ks))) := by
  show Res.ok (Val.bl (getV (kvsN ks f) (.inl (n : Int))).isSome) = _
  rw [kvsN_get]
  by_cases h : n ∈ ks
  · rw [if_pos h, decide_eq_true h]; rfl
  · rw [if_neg h, decide_eq_false h]; rfl
theorem notIn_kvsN (ks : List Nat) (f : Nat → Val) (n : Nat) : vNotIn (iv n) (.dct (kvsN ks f)) = .ok (.bl (!decide (n ∈ ks))) := by
  unfold vNotIn
  rw [in_kvsN]
  rfl
theorem ix_kvsN {ks : List Nat} (f : Nat → Val) {n : Nat} (h : n ∈ ks) : vIx (.dct (kvsN ks f)) (iv n) = .ok (f n) := by
  show Res.ofOpt (getV (kvsN ks f) (.inl (n : Int))) = _
  rw [kvsN_get, if_pos h]
  rfl
theorem in_ints (x : Nat) (l : List Nat) : vIn (iv x) (.tup (l.map iv)) = .ok (.bl (decide (x ∈ l))) := by
  have hf : (l.map iv).all Val.isFlat = true := by rw [List.all_map, List.all_eq_true]; intro k _; rfl
  show (if (true && (l.map iv).all Val.isFlat) = true then Res.ok (Val.bl (inFlat (iv x) (l.map iv))) else .bad) = _
  rw [hf, if_pos (by rfl)]
  unfold inFlat
  rw [List.any_map]
  congr 2
  rw [Bool.eq_iff_iff, List.any_eq_true, decide_eq_true_iff]
  constructor
  · rintro ⟨k, hk, h⟩
    have h : ((k : Int) == (x : Int)) = true := h
    have : k = x := by rw [beq_iff_eq] at h; omega
    exact this ▸ hk
  · intro h
    exact ⟨x, h, by show ((x : Int) == (x : Int)) = true; simp⟩
end Vm
end

/-! Levels in plain Lean: reaching, the order of knowledge, settling. -/
noncomputable section
namespace Vm
structure Tn where
  n : Bool
  g : Nat
  l : Nat
  r : Nat
/-- on, off, or not decided -/
def stOf (t : Tn) (lv : Nat) : Option Bool := if lv = 0 ∨ lv = 1 then some (t.n == (lv == 1)) else none
def Adj (E : List (Nat × Nat)) (a b : Nat) : Prop := (a, b) ∈ E ∨ (b, a) ∈ E
def swE (ts : List Tn) (L : List Nat) (ok : Option Bool → Bool) : List (Nat × Nat) := (ts.filter fun t => ok (stOf t (L.getD t.g 0))).map fun t => (t.l, t.r)
def isOn : Option Bool → Bool
  | some true => true
  | _ => false
def notOff : Option Bool → Bool
  | some false => false
  | _ => true
/-- nodes that are not fixed, reached from fixed ones whose level is among s -/
inductive Reach (E : List (Nat × Nat)) (ks : List Nat) (lv : Nat → Nat) (s : List Nat) : Nat → Prop
  | fix {a b : Nat} : a ∈ ks → lv a ∈ s → Adj E a b → b ∉ ks → Reach E ks lv s b
  | go {a b : Nat} : Reach E ks lv s a → Adj E a b → b ∉ ks → Reach E ks lv s b
theorem Reach.free {E : List (Nat × Nat)} {ks : List Nat} {lv : Nat → Nat} {s : List Nat} {b : Nat} (h : Reach E ks lv s b) : b ∉ ks := by cases h <;> assumption
theorem Reach.mono {E E' : List (Nat × Nat)} {ks : List Nat} {lv lv' : Nat → Nat} {s s' : List Nat} (hE : ∀ a b, Adj E a b → Adj E' a b) (hs : ∀ a ∈ ks, lv a ∈ s → lv' a ∈ s') {b : Nat} (h : Reach E ks lv s b) : Reach E' ks lv' s' b := by
  induction h with
  | fix h1 h2 h3 h4 => exact .fix h1 (hs _ h1 h2) (hE _ _ h3) h4
  | go _ h3 h4 ih => exact .go ih (hE _ _ h3) h4
def lvOf (sz so mz mo : Bool) : Nat := if sz && !mo then 0 else if so && !mz then 1 else if mz || mo then 3 else 2
open Classical in
def RB (E : List (Nat × Nat)) (ks : List Nat) (lv : Nat → Nat) (s : List Nat) (n : Nat) : Bool := decide (Reach E ks lv s n)
theorem RB_iff {E : List (Nat × Nat)} {ks : List Nat} {lv : Nat → Nat} {s : List Nat} {n : Nat} : RB E ks lv s n = true ↔ Reach E ks lv s n := by unfold RB; exact @decide_eq_true_iff _ (Classical.propDecidable _)
def nxt (ts : List Tn) (ks : List Nat) (lv : Nat → Nat) (L : List Nat) (n : Nat) : Nat :=
  if n ∈ ks then L.getD n 0 else lvOf (RB (swE ts L isOn) ks lv [0] n) (RB (swE ts L isOn) ks lv [1] n) (RB (swE ts L notOff) ks lv [0, 3] n) (RB (swE ts L notOff) ks lv [1, 3] n)
def nextP (ts : List Tn) (ks : List Nat) (lv : Nat → Nat) (L : List Nat) : List Nat := (List.range L.length).map (nxt ts ks lv L)
theorem nextP_len (ts : List Tn) (ks : List Nat) (lv : Nat → Nat) (L : List Nat) : (nextP ts ks lv L).length = L.length := by unfold nextP; rw [List.length_map, List.length_range]
theorem nextP_get (ts : List Tn) (ks : List Nat) (lv : Nat → Nat) (L : List Nat) {n : Nat} (h : n < L.length) : (nextP ts ks lv L).getD n 0 = nxt ts ks lv L n := by
  unfold nextP
  rw [List.getD_eq_getElem?_getD, List.getElem?_map, List.getElem?_range h]
  rfl
/-- at least as much known -/
def Le (x y : Nat) : Prop := x = 3 ∨ x = y
def LeL (L L' : List Nat) : Prop := L.length = L'.length ∧ ∀ n, n < L.length → Le (L.getD n 0) (L'.getD n 0)
theorem LeL.refl (L : List Nat) : LeL L L := ⟨rfl, fun _ _ => .inr rfl⟩
theorem Le.st {x y : Nat} (t : Tn) (h : Le x y) : (isOn (stOf t x) = true → isOn (stOf t y) = true) ∧ (notOff (stOf t y) = true → notOff (stOf t x) = true) := by
  rcases h with rfl | rfl
  · refine ⟨fun h => ?_, fun _ => rfl⟩
    have : stOf t 3 = none := rfl
    rw [this] at h; cases h
  · exact ⟨id, id⟩
theorem adj_mono {ts : List Tn} {L L' : List Nat} {ok ok' : Option Bool → Bool} (h : ∀ t ∈ ts, ok (stOf t (L.getD t.g 0)) = true → ok' (stOf t (L'.getD t.g 0)) = true) (a b : Nat) (q : Adj (swE ts L ok) a b) : Adj (swE ts L' ok') a b := by
  have go : ∀ e, e ∈ swE ts L ok → e ∈ swE ts L' ok' := fun e he => by
    unfold swE at he ⊢
    obtain ⟨t, ht, rfl⟩ := List.mem_map.mp he
    obtain ⟨h1, h2⟩ := List.mem_filter.mp ht
    exact List.mem_map.mpr ⟨t, List.mem_filter.mpr ⟨h1, h t h1 h2⟩, rfl⟩
  exact q.imp (go _) (go _)
theorem on_notOff {o : Option Bool} (h : isOn o = true) : notOff o = true := by
  cases o with
  | none => cases h
  | some b => cases b with
    | false => cases h
    | true => rfl
theorem lvOf_mono {sz so mz mo sz' so' mz' mo' : Bool} (h1 : sz = true → sz' = true) (h2 : so = true → so' = true) (h3 : mz' = true → mz = true) (h4 : mo' = true → mo = true) (h5 : sz' = true → mz' = true) (h6 : so' = true → mo' = true) : Le (lvOf sz so mz mo) (lvOf sz' so' mz' mo') := by
  unfold Le lvOf
  cases sz <;> cases so <;> cases mz <;> cases mo <;> cases sz' <;> cases so' <;> cases mz' <;> cases mo' <;> simp_all
/-- more known in, more known out -/
theorem next_mono {ts : List Tn} {ks : List Nat} {lv lv' : Nat → Nat} {L L' : List Nat} (hg : ∀ t ∈ ts, t.g < L.length) (hL : LeL L L') (hf : ∀ a ∈ ks, Le (lv a) (lv' a)) (h3 : ∀ a ∈ ks, lv a = 0 ∨ lv a = 1 ∨ lv a = 3) : LeL (nextP ts ks lv L) (nextP ts ks lv' L') := by
  refine ⟨by rw [nextP_len, nextP_len]; exact hL.1, fun n hn => ?_⟩
  rw [nextP_len] at hn
  rw [nextP_get _ _ _ _ hn, nextP_get _ _ _ _ (by rw [← hL.1]; exact hn)]
  unfold nxt
  by_cases hk : n ∈ ks
  · rw [if_pos hk, if_pos hk]; exact hL.2 n hn
  · rw [if_neg hk, if_neg hk]
    have st : ∀ t ∈ ts, Le (L.getD t.g 0) (L'.getD t.g 0) := fun t ht => hL.2 _ (hg t ht)
    have e1 : ∀ a b, Adj (swE ts L isOn) a b → Adj (swE ts L' isOn) a b := adj_mono fun t ht h => ((st t ht).st t).1 h
    have e2 : ∀ a b, Adj (swE ts L' notOff) a b → Adj (swE ts L notOff) a b := adj_mono fun t ht h => ((st t ht).st t).2 h
    have e3 : ∀ a b, Adj (swE ts L' isOn) a b → Adj (swE ts L' notOff) a b := adj_mono fun t ht h => on_notOff h
    refine lvOf_mono ?_ ?_ ?_ ?_ ?_ ?_ <;> (intro h; rw [RB_iff] at h ⊢)
    · refine h.mono e1 fun a ha q => ?_
      rcases hf a ha with z | z
      · rw [z] at q; simp at q
      · rwa [← z]
    · refine h.mono e1 fun a ha q => ?_
      rcases hf a ha with z | z
      · rw [z] at q; simp at q
      · rwa [← z]
    · refine h.mono e2 fun a ha q => ?_
      rcases hf a ha with z | z
      · rw [z]; simp
      · rwa [z]
    · refine h.mono e2 fun a ha q => ?_
      rcases hf a ha with z | z
      · rw [z]; simp
      · rwa [z]
    · refine h.mono e3 fun a ha q => ?_
      simp only [List.mem_cons, List.not_mem_nil, or_false] at q ⊢
      exact .inl q
    · refine h.mono e3 fun a ha q => ?_
      simp only [List.mem_cons, List.not_mem_nil, or_false] at q ⊢
      exact .inl q
/-! settling -/
def unk (L : List Nat) : Nat := (L.filter fun x => x == 3).length
theorem unk_le (L : List Nat) : unk L ≤ L.length := List.length_filter_le _ _
theorem unk_lt : ∀ {L L' : List Nat}, LeL L L' → L ≠ L' → unk L' < unk L
  | [], [], _, h => absurd rfl h
  | [], _ :: _, h, _ => by cases h.1
  | _ :: _, [], h, _ => by cases h.1
  | x :: L, y :: L', h, hne => by
    have ht : LeL L L' := ⟨by simpa using h.1, fun n hn => by
      have := h.2 (n + 1) (by simpa using hn)
      simpa using this⟩
    have h0 : Le x y := by have := h.2 0 (by simp); simpa using this
    have hle : unk L' ≤ unk L := by
      by_cases q : L = L'
      · rw [q]; exact Nat.le_refl _
      · exact Nat.le_of_lt (unk_lt ht q)
    have c : ∀ (a : Nat) (M : List Nat), unk (a :: M) = (if a = 3 then 1 else 0) + unk M := fun a M => by
      unfold unk
      rw [List.filter_cons]
      by_cases q : a = 3
      · rw [if_pos (by simpa using q), if_pos q, List.length_cons]; omega
      · rw [if_neg (by simpa using q), if_neg q]; omega
    rw [c, c]
    rcases h0 with rfl | rfl
    · by_cases q : y = 3
      · subst q
        have : L ≠ L' := fun z => hne (by rw [z])
        have := unk_lt ht this
        omega
      · rw [if_pos rfl, if_neg q]; omega
    · have : L ≠ L' := fun z => hne (by rw [z])
      have := unk_lt ht this
      omega
def settleF (ts : List Tn) (ks : List Nat) (lv : Nat → Nat) : Nat → List Nat → List Nat
  | 0, L => L
  | k + 1, L => if nextP ts ks lv L = L then L else settleF ts ks lv k (nextP ts ks lv L)
theorem settle_same {ts : List Tn} {ks : List Nat} {lv : Nat → Nat} (h3 : ∀ a ∈ ks, lv a = 0 ∨ lv a = 1 ∨ lv a = 3) : ∀ (j k : Nat) (L : List Nat), (∀ t ∈ ts, t.g < L.length) → LeL L (nextP ts ks lv L) → unk L < j → unk L < k → settleF ts ks lv j L = settleF ts ks lv k L
  | 0, _, _, _, _, h, _ => by omega
  | _, 0, _, _, _, _, h => by omega
  | j + 1, k + 1, L, hg, hL, hj, hk => by
    unfold settleF
    by_cases q : nextP ts ks lv L = L
    · rw [if_pos q, if_pos q]
    · rw [if_neg q, if_neg q]
      have := unk_lt hL (fun z => q z.symm)
      exact settle_same h3 j k _ (by rw [nextP_len]; exact hg) (next_mono hg hL (fun _ _ => .inr rfl) h3) (by omega) (by omega)
def lev0 (n : Nat) (ks : List Nat) (lv : Nat → Nat) : List Nat := (List.range n).map fun k => if k ∈ ks then lv k else 3
theorem lev0_len (n : Nat) (ks : List Nat) (lv : Nat → Nat) : (lev0 n ks lv).length = n := by unfold lev0; rw [List.length_map, List.length_range]
theorem lev0_get (n : Nat) (ks : List Nat) (lv : Nat → Nat) {k : Nat} (h : k < n) : (lev0 n ks lv).getD k 0 = if k ∈ ks then lv k else 3 := by
  unfold lev0
  rw [List.getD_eq_getElem?_getD, List.getElem?_map, List.getElem?_range h]
  rfl
theorem lev0_le (ts : List Tn) (n : Nat) (ks : List Nat) (lv : Nat → Nat) : LeL (lev0 n ks lv) (nextP ts ks lv (lev0 n ks lv)) := by
  refine ⟨by rw [nextP_len], fun k hk => ?_⟩
  rw [lev0_len] at hk
  rw [nextP_get _ _ _ _ (by rw [lev0_len]; exact hk)]
  unfold nxt
  by_cases q : k ∈ ks
  · rw [if_pos q]; exact .inr rfl
  · rw [lev0_get n ks lv hk, if_neg q]; exact .inl rfl
def settleP (n : Nat) (ts : List Tn) (ks : List Nat) (lv : Nat → Nat) : List Nat := settleF ts ks lv (n + 1) (lev0 n ks lv)
/-- what settling gives -/
structure Settled (n : Nat) (ts : List Tn) (ks : List Nat) (lv : Nat → Nat) (L : List Nat) : Prop where
  len : L.length = n
  fix : nextP ts ks lv L = L
  at_ : ∀ k ∈ ks, k < n → L.getD k 0 = lv k
  le3 : ∀ k, k < n → L.getD k 0 ≤ 3
  least : ∀ (lv' : Nat → Nat) (M : List Nat), (∀ a ∈ ks, Le (lv a) (lv' a)) → M.length = n → nextP ts ks lv' M = M → (∀ k ∈ ks, k < n → M.getD k 0 = lv' k) → LeL L M
theorem lvOf_le (a b c d : Bool) : lvOf a b c d ≤ 3 := by unfold lvOf; split <;> (try omega); split <;> (try omega); split <;> omega
theorem settleF_ok {n : Nat} {ts : List Tn} {ks : List Nat} {lv : Nat → Nat} (h3 : ∀ a ∈ ks, lv a = 0 ∨ lv a = 1 ∨ lv a = 3) (hg : ∀ t ∈ ts, t.g < n) : ∀ (j : Nat) (L : List Nat), L.length = n → LeL L (nextP ts ks lv L) → unk L < j → (∀ k ∈ ks, k < n → L.getD k 0 = lv k) → (∀ k, k < n → L.getD k 0 ≤ 3) →
    (∀ (lv' : Nat → Nat) (M : List Nat), (∀ a ∈ ks, Le (lv a) (lv' a)) → M.length = n → nextP ts ks lv' M = M → (∀ k ∈ ks, k < n → M.getD k 0 = lv' k) → LeL L M) → Settled n ts ks lv (settleF ts ks lv j L)
  | 0, L, _, _, h, _, _, _ => by omega
  | j + 1, L, hl, hL, hj, ha, hb, hc => by
    unfold settleF
    by_cases q : nextP ts ks lv L = L
    · rw [if_pos q]; exact ⟨hl, q, ha, hb, hc⟩
    · rw [if_neg q]
      have hu := unk_lt hL (fun z => q z.symm)
      have hgL : ∀ t ∈ ts, t.g < L.length := by rw [hl]; exact hg
      refine settleF_ok h3 hg j _ (by rw [nextP_len]; exact hl) (next_mono hgL hL (fun _ _ => .inr rfl) h3) (by omega) (fun k hk hkn => ?_) (fun k hkn => ?_) (fun lv' M h1 h2 h4 h5 => ?_)
      · rw [nextP_get _ _ _ _ (by omega)]; unfold nxt; rw [if_pos hk]; exact ha k hk hkn
      · rw [nextP_get _ _ _ _ (by omega)]; unfold nxt
        split
        · exact hb k hkn
        · exact lvOf_le _ _ _ _
      · have := next_mono hgL (hc lv' M h1 h2 h4 h5) h1 h3
        rwa [h4] at this
theorem settleP_ok {n : Nat} {ts : List Tn} {ks : List Nat} {lv : Nat → Nat} (h3 : ∀ a ∈ ks, lv a = 0 ∨ lv a = 1 ∨ lv a = 3) (hg : ∀ t ∈ ts, t.g < n) : Settled n ts ks lv (settleP n ts ks lv) := by
  refine settleF_ok h3 hg (n + 1) _ (lev0_len _ _ _) (lev0_le _ _ _ _) (by have := unk_le (lev0 n ks lv); rw [lev0_len] at this; omega) (fun k hk hkn => ?_) (fun k hkn => ?_) (fun lv' M h1 h2 h4 h5 => ⟨by rw [lev0_len, h2], fun k hk => ?_⟩)
  · rw [lev0_get _ _ _ hkn, if_pos hk]
  · rw [lev0_get _ _ _ hkn]
    split
    · rename_i hk; rcases h3 k hk with h | h | h <;> omega
    · omega
  · rw [lev0_len] at hk
    rw [lev0_get _ _ _ hk]
    by_cases q : k ∈ ks
    · rw [if_pos q, h5 k q hk]; exact h1 k q
    · rw [if_neg q]; exact .inl rfl
end Vm
end

/-! Levels: what the texts compute. -/
noncomputable section
namespace Vm
local macro_rules | `(tactic| simp! [$ts,*]) => `(tactic| simp only [Ok_seq, sSet, sSetN, sOwn, sOwnN, sAppend, sAppendN, sFreeze, sForget, sIf, sRet, sRetN, sNext, sPut, sDrop, sAug, sOn, sItem, sItemN, itemPut, sBreak, sCont, hide, Slot.hide, eVar, eC, e1, e2, eArgs, eAnd, eOr, eNot, eIf, eChain, eCall, eCut, partOf, aNil, aCons, asBl, bVal, bTruth, bAnd, bOr, bNot, bYes, truth, vAdd_int, vAdd_lst, vAdd_tup, vSub, vMul_int, vDiv_int, vMod_int, vPow18, vPow12, vPow11, vPow9, vPow6, vNeg, vLt, vLe, vGt, vGe, vEq, vNe, eqR_int, eqR_bl, eqR_str, vIsi, Val.isOb, vTup, vLst, vLen_lst, vLen_tup, vInt, vIs, vIsNot, vIx_lst, vIx_tup, vIx_dct, vListOf, vTupOf, vIpAdd, vMax2, vMax3, vMin2, Val.ty, Ty.sub, noLst_int, noLst_bl, noLst_str, noLst_non, noLst_tup, noLsts_nil, noLsts_cons, noLsts_ints, pName, pTup, pTupL, putAll, iSeq, itemsOf, iRange1, iRange2, DR.res, Res.ofOpt_some, Res.ofOpt_none, Res.bind_ok, Res.bind_exc, Res.bind_bad, Res.nx_ok, Res.flow_ok, Res.flow_bad, Flow.bind_next, Flow.bind_ret, Flow.bind_brk, Flow.bind_cont, Flow.bind_bad, Ok_next, Ok_ret, Ok_brk, Ok_cont, Ok_bind, Ok_cond, Ok_ite, Ok_ofOpt, flow_ite, bind_ite, nx_ite', flow_cond, bind_cond, cond_andV, cond_orV, cond_and, cond_or, atI_nat, atI_0, atI_1, atI_lit, startE, List.map_cons, List.map_nil, List.length_cons, List.length_nil, List.getElem?_cons_zero, List.getElem?_cons_succ, List.set_cons_zero, List.set_cons_succ, List.set_nil, List.replicate, List.append_nil, List.cons_append, List.nil_append, Nat.sub_self, Nat.reduceAdd, Nat.reduceSub, Nat.reduceLT, Nat.reduceLeDiff, Nat.reduceEqDiff, Int.reduceLE, Int.reduceLT, Int.reduceToNat, Int.reducePow, Int.reduceMul, Int.reduceAdd, Int.reduceSub, Int.reduceNeg, Int.cast_ofNat_Int, if_true, if_false, ↓reduceIte, reduceCtorEq, beq_self_eq_true, and_true, true_and, decide_eq_true_eq, decide_eq_false_iff_not, Bool.not_eq_true', Bool.not_eq_false', Bool.and_true, Bool.true_and, Bool.or_true, Bool.and_false, Bool.or_false, Bool.false_or, Bool.true_or, Bool.false_and, Bool.not_true, Bool.not_false, beq_iff_eq, forall_const, false_implies, Option.map_some, decide_true, decide_false, cond_true, cond_false, $ts,*])
def kS (b : Bool) : Str := if b then "n" else "p"
def Tn.v (t : Tn) : Val := .tup [.str (kS t.n), iv t.g, iv t.l, iv t.r]
def stS : Option Bool → Str
  | none => "undecided"
  | some true => "on"
  | some false => "off"
/-! the dict of neighbours -/
abbrev NB := List (Nat × List Nat)
def nbD (nb : NB) : List (Key × Tr) := nb.map fun p => ((.inl (p.1 : Int) : Key), rowT p.2)
def nbT (nb : NB) : Tr := .d (nbD nb)
def nbV (nb : NB) : Val := .dct (nb.map fun p => ((.inl (p.1 : Int) : Key), rowV p.2))
def lookN (nb : NB) (k : Nat) : List Nat := (nb.lookup k).getD []
def addN : NB → Nat → Nat → NB
  | [], k, x => [(k, [x])]
  | (q, xs) :: r, k, x => if q = k then (q, xs ++ [x]) :: r else (q, xs) :: addN r k x
theorem nbT_val (nb : NB) : (nbT nb).val = nbV nb := by
  show Val.dct (Tr.valsD (nbD nb)) = _
  unfold nbV
  congr 1
  induction nb with
  | nil => rfl
  | cons p nb ih =>
    show ((_, (rowT p.2).val) :: Tr.valsD (nbD nb)) = _
    rw [ih, rowT_val]
    rfl
theorem look_nbD (nb : NB) (k : Nat) : lookK (nbD nb) (.inl (k : Int)) = (nb.lookup k).map rowT := by
  induction nb with
  | nil => rfl
  | cons p nb ih =>
    obtain ⟨q, xs⟩ := p
    show lookK ((.inl (q : Int), rowT xs) :: nbD nb) _ = _
    unfold lookK
    rw [List.lookup_cons]
    by_cases h : q = k
    · subst h
      rw [if_pos rfl]; simp
    · rw [if_neg (fun z => h (inl_nat.mp z)), ih]
      have : (k == q) = false := by rw [beq_eq_false_iff_ne]; exact fun z => h z.symm
      rw [this]
theorem mod_nbD (nb : NB) (k x : Nat) : (match lookK (setdT (nbD nb) (.inl (k : Int))) (.inl (k : Int)) with
    | some (.l us) => some (us, modK (fun _ => .l (us ++ [.v (iv x)])) (setdT (nbD nb) (.inl (k : Int))) (.inl (k : Int)))
    | _ => none) = some ((lookN nb k).map (fun k => Tr.v (iv k)), nbD (addN nb k x)) := by
  have row : ∀ xs : List Nat, rowT xs = .l (xs.map fun k => Tr.v (iv k)) := fun _ => rfl
  unfold setdT
  rw [look_nbD]
  cases hq : nb.lookup k with
  | some xs =>
    show (match lookK (nbD nb) _ with | some (.l us) => _ | _ => _) = _
    rw [look_nbD, hq]
    show some (xs.map (fun k => Tr.v (iv k)), _) = _
    have e1 : lookN nb k = xs := by unfold lookN; rw [hq]; rfl
    rw [e1]
    congr 2
    have : Tr.l (xs.map (fun k => Tr.v (iv k)) ++ [.v (iv x)]) = rowT (xs ++ [x]) := by rw [row, List.map_append]; rfl
    rw [this]
    clear e1
    induction nb with
    | nil => cases hq
    | cons p nb ih =>
      obtain ⟨q, ys⟩ := p
      rw [List.lookup_cons] at hq
      show modK _ ((.inl (q : Int), rowT ys) :: nbD nb) _ = nbD (addN ((q, ys) :: nb) k x)
      unfold modK addN
      by_cases h : q = k
      · subst h
        rw [if_pos rfl, if_pos rfl]
        simp at hq
        subst hq
        rfl
      · rw [if_neg (fun z => h (inl_nat.mp z)), if_neg h]
        have hb : (k == q) = false := by rw [beq_eq_false_iff_ne]; exact fun z => h z.symm
        rw [hb] at hq
        have e : modK (fun _ => rowT (xs ++ [x])) (nbD nb) (.inl (k : Int)) = nbD (addN nb k x) := ih hq
        rw [e]
        rfl
  | none =>
    show (match lookK (nbD nb ++ [(.inl (k : Int), .l [])]) _ with | some (.l us) => _ | _ => _) = _
    have e1 : lookN nb k = [] := by unfold lookN; rw [hq]; rfl
    have e2 : lookK (nbD nb ++ [(.inl (k : Int), .l [])]) (.inl (k : Int)) = some (.l []) := by
      clear e1
      induction nb with
      | nil => show (if (Sum.inl (k : Int) : Key) = Sum.inl (k : Int) then _ else _) = _; rw [if_pos rfl]
      | cons p nb ih =>
        obtain ⟨q, ys⟩ := p
        rw [List.lookup_cons] at hq
        have h : ¬ q = k := fun z => by subst z; simp at hq
        have hb : (k == q) = false := by rw [beq_eq_false_iff_ne]; exact fun z => h z.symm
        rw [hb] at hq
        show lookK ((.inl (q : Int), rowT ys) :: (nbD nb ++ _)) _ = _
        unfold lookK
        rw [if_neg (fun z => h (inl_nat.mp z))]
        exact ih hq
    rw [e2, e1]
    show some (([] : List Tr), _) = some ([], _)
    congr 2
    clear e1 e2
    induction nb with
    | nil =>
      show modK _ [(.inl (k : Int), .l [])] _ = nbD [(k, [x])]
      unfold modK
      rw [if_pos rfl]
      rfl
    | cons p nb ih =>
      obtain ⟨q, ys⟩ := p
      rw [List.lookup_cons] at hq
      have h : ¬ q = k := fun z => by subst z; simp at hq
      have hb : (k == q) = false := by rw [beq_eq_false_iff_ne]; exact fun z => h z.symm
      rw [hb] at hq
      show modK _ ((.inl (q : Int), rowT ys) :: (nbD nb ++ _)) _ = nbD (addN ((q, ys) :: nb) k x)
      unfold modK addN
      have e : modK (fun _ => Tr.l ([] ++ [Tr.v (iv x)])) (nbD nb ++ [(.inl (k : Int), .l [])]) (.inl (k : Int)) = nbD (addN nb k x) := ih hq
      rw [if_neg (fun z => h (inl_nat.mp z)), if_neg h, e]
      rfl
theorem mem_addN (nb : NB) (k x a b : Nat) : b ∈ lookN (addN nb k x) a ↔ (b ∈ lookN nb a ∨ (a = k ∧ b = x)) := by
  unfold lookN
  induction nb with
  | nil =>
    show b ∈ (List.lookup a [(k, [x])]).getD [] ↔ _
    rw [List.lookup_cons]
    by_cases h : a = k
    · subst h; simp
    · have : (a == k) = false := by rw [beq_eq_false_iff_ne]; exact h
      rw [this]
      simp [h]
  | cons p nb ih =>
    obtain ⟨q, ys⟩ := p
    unfold addN
    by_cases h : q = k
    · subst h
      rw [if_pos rfl, List.lookup_cons, List.lookup_cons]
      by_cases h2 : a = q
      · subst h2; simp
      · have : (a == q) = false := by rw [beq_eq_false_iff_ne]; exact h2
        rw [this]
        simp [h2]
    · rw [if_neg h, List.lookup_cons, List.lookup_cons]
      by_cases h2 : a = q
      · subst h2
        simp [h]
      · have : (a == q) = false := by rw [beq_eq_false_iff_ne]; exact h2
        rw [this]
        exact ih
theorem len_addN (nb : NB) (k x : Nat) : (addN nb k x).length ≤ nb.length + 1 ∧ ∀ a, (lookN (addN nb k x) a).length ≤ (lookN nb a).length + 1 := by
  unfold lookN
  induction nb with
  | nil =>
    refine ⟨Nat.le_refl _, fun a => ?_⟩
    show ((List.lookup a [(k, [x])]).getD []).length ≤ _
    rw [List.lookup_cons]
    by_cases h : a = k
    · subst h; simp
    · have : (a == k) = false := by rw [beq_eq_false_iff_ne]; exact h
      rw [this]
      simp
  | cons p nb ih =>
    obtain ⟨q, ys⟩ := p
    unfold addN
    by_cases h : q = k
    · subst h
      rw [if_pos rfl]
      refine ⟨by simp, fun a => ?_⟩
      rw [List.lookup_cons, List.lookup_cons]
      by_cases h2 : a = q
      · subst h2; simp
      · have : (a == q) = false := by rw [beq_eq_false_iff_ne]; exact h2
        rw [this]
        exact Nat.le_succ _
    · rw [if_neg h]
      refine ⟨by simp; exact ih.1, fun a => ?_⟩
      rw [List.lookup_cons, List.lookup_cons]
      by_cases h2 : a = q
      · subst h2; simp
      · have : (a == q) = false := by rw [beq_eq_false_iff_ne]; exact h2
        rw [this]
        exact ih.2 a
theorem get_nbV (nb : NB) (k : Nat) : getD (nb.map fun p => ((.inl (p.1 : Int) : Key), rowV p.2)) (iv k) (.lst []) = .ok (rowV (lookN nb k)) := by
  show Res.ok ((getV (nb.map fun p => ((.inl (p.1 : Int) : Key), rowV p.2)) (.inl (k : Int))).getD (.lst [])) = _
  congr 1
  unfold lookN
  induction nb with
  | nil => rfl
  | cons p nb ih =>
    obtain ⟨q, ys⟩ := p
    unfold getV at ih ⊢
    rw [List.map_cons, List.find?_cons, List.lookup_cons]
    by_cases h : q = k
    · subst h
      simp
    · have : decide ((Sum.inl (q : Int) : Key) = Sum.inl (k : Int)) = false := decide_eq_false fun z => h (inl_nat.mp z)
      have hb : (k == q) = false := by rw [beq_eq_false_iff_ne]; exact fun z => h z.symm
      simp only [this, hb]
      exact ih
/-- P.setdefault(k, []).append(x) on a dict of neighbours -/
theorem setd_nb {env : Env} {i k x : Nat} {nb : NB} {mk mx : EX} (hi : env[i]? = some (.oT (nbT nb))) (hk : mk (hide env) = .ok (iv k)) (hx : ∀ t, mx (hide (env.set i (.oT t))) = .ok (iv x)) (hl : nb.length ≤ 1000000) (hl2 : (lookN nb k).length ≤ 1000000) : sAtSetd (.s i) mk mx env = .next (env.set i (.oT (nbT (addN nb k x)))) := by
  have hil : i < env.length := (List.getElem?_eq_some_iff.mp hi).1
  have hp : plAt (.s i) env = .ok (i, [], nbT nb) := by unfold plAt; rw [hi]
  unfold sAtSetd
  rw [hp]
  simp only [Res.nx_ok, Res.flow_ok, nbT]
  rw [hk]
  simp only [Res.flow_ok]
  show (if (nbD nb).length < 16777216 then (putPl env i [] (.d (setdT (nbD nb) (.inl (k : Int))))).bind fun e2 => appAt i [.ky (.inl (k : Int))] mx e2 else .bad) = _
  rw [if_pos (by unfold nbD; rw [List.length_map]; omega)]
  have hput : putPl env i [] (.d (setdT (nbD nb) (.inl (k : Int)))) = .next (env.set i (.oT (.d (setdT (nbD nb) (.inl (k : Int)))))) := by
    unfold putPl
    rw [hi]
    rfl
  rw [hput]
  show appAt i [.ky (.inl (k : Int))] mx (env.set i (.oT (.d (setdT (nbD nb) (.inl (k : Int)))))) = _
  have md := mod_nbD nb k x
  have hset : (env.set i (.oT (.d (setdT (nbD nb) (.inl (k : Int))))))[i]? = some (.oT (.d (setdT (nbD nb) (.inl (k : Int))))) := List.getElem?_set_self hil
  cases hq : lookK (setdT (nbD nb) (.inl (k : Int))) (.inl (k : Int)) with
  | none => rw [hq] at md; cases md
  | some t =>
    cases t with
    | l us =>
      rw [hq] at md
      simp only [Option.some.injEq, Prod.mk.injEq] at md
      have ht : treeAt (env.set i (.oT (.d (setdT (nbD nb) (.inl (k : Int)))))) i [.ky (.inl (k : Int))] = some (.l us) := by
        unfold treeAt
        rw [hset]
        show getAt [.ky (.inl (k : Int))] (.d (setdT (nbD nb) (.inl (k : Int)))) = _
        unfold getAt
        rw [hq]
        rfl
      unfold appAt
      rw [ht]
      simp only [hx, Res.flow_ok]
      rw [if_pos (by rw [md.1, List.length_map]; omega)]
      unfold putPl
      rw [hset]
      show Flow.next ((env.set i _).set i (.oT (.d (modK (setAt [] (.l (us ++ [.v (iv x)]))) (setdT (nbD nb) (.inl (k : Int))) (.inl (k : Int)))))) = _
      rw [List.set_set]
      have : setAt [] (.l (us ++ [.v (iv x)])) = fun _ => Tr.l (us ++ [.v (iv x)]) := rfl
      rw [this, md.2]
    | _ => rw [hq] at md; cases md
def addE (nb : NB) (E : List (Nat × Nat)) : NB := E.foldl (fun nb e => addN (addN nb e.1 e.2) e.2 e.1) nb
def nbOf (E : List (Nat × Nat)) : NB := addE [] E
theorem mem_addE : ∀ (E : List (Nat × Nat)) (nb : NB) (a b : Nat), b ∈ lookN (addE nb E) a ↔ (b ∈ lookN nb a ∨ Adj E a b)
  | [], nb, a, b => by show b ∈ lookN nb a ↔ _; unfold Adj; simp
  | e :: E, nb, a, b => by
    show b ∈ lookN (addE (addN (addN nb e.1 e.2) e.2 e.1) E) a ↔ _
    rw [mem_addE E, mem_addN, mem_addN]
    unfold Adj
    obtain ⟨x, y⟩ := e
    simp only [List.mem_cons, Prod.mk.injEq]
    constructor
    · rintro (((h | h) | h) | h | h)
      · exact .inl h
      · exact .inr (.inl (.inl h))
      · exact .inr (.inr (.inl ⟨h.2, h.1⟩))
      · exact .inr (.inl (.inr h))
      · exact .inr (.inr (.inr h))
    · rintro (h | (h | h) | (h | h))
      · exact .inl (.inl (.inl h))
      · exact .inl (.inl (.inr h))
      · exact .inr (.inl h)
      · exact .inl (.inr ⟨h.2, h.1⟩)
      · exact .inr (.inr h)
theorem mem_nbOf (E : List (Nat × Nat)) (a b : Nat) : b ∈ lookN (nbOf E) a ↔ Adj E a b := by
  unfold nbOf
  rw [mem_addE]
  simp [lookN]
theorem len_addE : ∀ (E : List (Nat × Nat)) (nb : NB), (addE nb E).length ≤ nb.length + 2 * E.length ∧ ∀ a, (lookN (addE nb E) a).length ≤ (lookN nb a).length + 2 * E.length
  | [], nb => ⟨Nat.le_refl _, fun _ => Nat.le_refl _⟩
  | e :: E, nb => by
    have h := len_addE E (addN (addN nb e.1 e.2) e.2 e.1)
    have h1 := len_addN nb e.1 e.2
    have h2 := len_addN (addN nb e.1 e.2) e.2 e.1
    refine ⟨?_, fun a => ?_⟩
    · have := h.1; have := h1.1; have := h2.1
      show (addE (addN (addN nb e.1 e.2) e.2 e.1) E).length ≤ _
      rw [List.length_cons]; omega
    · have := h.2 a; have := h1.2 a; have := h2.2 a
      show (lookN (addE (addN (addN nb e.1 e.2) e.2 e.1) E) a).length ≤ _
      rw [List.length_cons]; omega
namespace Lib
open PySem
theorem switch_state_ok (b : Bool) (lv : Nat) (t : Tn) (h : t.n = b) : f_switch_state [.str (kS b), iv lv] = .ret (.str (stS (stOf t lv))) := by
  subst h
  refine defn_ret rfl ?_
  unfold m_switch_state stOf
  have k1 : (kS t.n == ("n" : Str)) = t.n := by cases t.n <;> rfl
  have k2 : (kS t.n == Str.ofString "n") = t.n := k1
  by_cases h0 : lv = 0
  · subst h0
    have e : (bAnd (bVal (e2 vNe (eVar 1) (eC (.int 0)))) (bVal (e2 vNe (eVar 1) (eC (.int 1))))) (startE 2 [.str (kS t.n), iv 0]) = .ok false := rfl
    unfold sIf
    rw [Ok_seq, e]
    simp only [Res.flow_ok, cond_false, sNext, Ok_next]
    refine Then.mk ?_
    unfold m_switch_state_1
    cases t.n <;> rw [Ok_eq] <;> rfl
  · by_cases h1 : lv = 1
    · subst h1
      have e : (bAnd (bVal (e2 vNe (eVar 1) (eC (.int 0)))) (bVal (e2 vNe (eVar 1) (eC (.int 1))))) (startE 2 [.str (kS t.n), iv 1]) = .ok false := rfl
      unfold sIf
      rw [Ok_seq, e]
      simp only [Res.flow_ok, cond_false, sNext, Ok_next]
      refine Then.mk ?_
      unfold m_switch_state_1
      cases t.n <;> rw [Ok_eq] <;> rfl
    · have e : (bAnd (bVal (e2 vNe (eVar 1) (eC (.int 0)))) (bVal (e2 vNe (eVar 1) (eC (.int 1))))) (startE 2 [.str (kS t.n), iv lv]) = .ok true := by
        have d0 : ((lv : Int) == 0) = false := by rw [beq_eq_false_iff_ne]; omega
        have d1 : ((lv : Int) == 1) = false := by rw [beq_eq_false_iff_ne]; omega
        unfold iv
        simp! [d0, d1]
      unfold sIf
      rw [Ok_seq, e]
      simp only [Res.flow_ok, cond_true]
      rw [if_neg (by omega)]
      rw [Ok_eq]
      rfl
/-- the states that are asked -/
def stsV (u : Bool) : Val := if u then .tup [.str "on", .str "undecided"] else .tup [.str "on"]
def stsOk (u : Bool) : Option Bool → Bool := if u then notOff else isOn
theorem in_sts (u : Bool) (o : Option Bool) : vIn (.str (stS o)) (stsV u) = .ok (.bl (stsOk u o)) := by
  cases u <;> cases o with
  | none => rfl
  | some b => cases b <;> rfl
theorem neighbours_ok (ts : List Tn) (L : List Nat) (u : Bool) (hg : ∀ t ∈ ts, t.g < L.length) (hl : ts.length ≤ 100000) : f_neighbours_over [.lst (ts.map Tn.v), .lst (L.map iv), stsV u] = .ret (nbV (nbOf (swE ts L (stsOk u)))) := by
  refine defn_ret rfl ?_
  let E : NB → Slot → Slot → Slot → Slot → Env := fun nb s4 s5 s6 s7 => [.sh (.lst (ts.map Tn.v)), .sh (.lst (L.map iv)), .sh (stsV u), .oT (nbT nb), s4, s5, s6, s7]
  have h0 : sOwnT 3 tNilD (startE 8 [.lst (ts.map Tn.v), .lst (L.map iv), stsV u]) = .next (E [] .un .un .un .un) := rfl
  unfold m_neighbours_over
  rw [Ok_seq, h0, Ok_next]
  refine Then.mk ?_
  unfold m_neighbours_over_1 m_neighbours_over_b_F
  rw [Ok_seq]
  refine Ok_for (xs := ts.map Tn.v) rfl ?_
  refine forL_ind Tn.v (fun rest env => ∃ (done : List Tn) (s4 s5 s6 s7 : Slot), env = E (nbOf (swE done L (stsOk u))) s4 s5 s6 s7 ∧ done ++ rest = ts) ?_ ?_ _ _ ⟨[], .un, .un, .un, .un, rfl, rfl⟩
  · rintro t rest env ⟨done, s4, s5, s6, s7, rfl, hd⟩
    have htm : t ∈ ts := by rw [← hd]; simp
    have hgt := hg t htm
    have hdl : done.length ≤ 100000 := by rw [← hd, List.length_append] at hl; omega
    have hsl : (swE done L (stsOk u)).length ≤ 100000 := by
      unfold swE
      rw [List.length_map]
      have := List.length_filter_le (fun t => stsOk u (stOf t (L.getD t.g 0))) done
      omega
    have hE : swE (done ++ [t]) L (stsOk u) = if stsOk u (stOf t (L.getD t.g 0)) = true then swE done L (stsOk u) ++ [(t.l, t.r)] else swE done L (stsOk u) := by
      unfold swE
      rw [List.filter_append, List.map_append]
      by_cases h : stsOk u (stOf t (L.getD t.g 0)) = true
      · rw [if_pos h, List.filter_cons, if_pos h]; rfl
      · rw [if_neg h, List.filter_cons, if_neg h]; exact List.append_nil _
    refine ⟨E (nbOf (swE done L (stsOk u))) (.sh (.str (kS t.n))) (.sh (iv t.g)) (.sh (iv t.l)) (.sh (iv t.r)), rfl, ?_⟩
    have hgL : vIx (.lst (L.map iv)) (iv t.g) = .ok (iv (L.getD t.g 0)) := by
      unfold iv
      rw [vIx_lst, atI_nat, List.getElem?_map, List.getD_eq_getElem?_getD, List.getElem?_eq_getElem hgt]
      rfl
    have hsw := switch_state_ok t.n (L.getD t.g 0) t rfl
    have ht : (bVal (e2 vIn (eCall f_switch_state (aCons (eVar 4) (aCons (e2 vIx (eVar 1) (eVar 5)) aNil))) (eVar 2))) (E (nbOf (swE done L (stsOk u))) (.sh (.str (kS t.n))) (.sh (iv t.g)) (.sh (iv t.l)) (.sh (iv t.r))) = .ok (stsOk u (stOf t (L.getD t.g 0))) := by
      have : (e2 vIn (eCall f_switch_state (aCons (eVar 4) (aCons (e2 vIx (eVar 1) (eVar 5)) aNil))) (eVar 2)) (E (nbOf (swE done L (stsOk u))) (.sh (.str (kS t.n))) (.sh (iv t.g)) (.sh (iv t.l)) (.sh (iv t.r))) = .ok (.bl (stsOk u (stOf t (L.getD t.g 0)))) := by
        rw [← in_sts]
        simp! [E, hgL, hsw]
      unfold bVal
      rw [this]
      rfl
    unfold m_neighbours_over_b_L sIf
    rw [ht]
    simp only [Res.flow_ok]
    have lens := len_addE (swE done L (stsOk u)) []
    have l1 : (nbOf (swE done L (stsOk u))).length ≤ 200000 := by have := lens.1; unfold nbOf; simp at this; omega
    have l2 : ∀ a, (lookN (nbOf (swE done L (stsOk u))) a).length ≤ 200000 := fun a => by have := lens.2 a; unfold nbOf; simp [lookN] at this ⊢; omega
    cases hb : stsOk u (stOf t (L.getD t.g 0)) with
    | false =>
      rw [hb, if_neg (by decide)] at hE
      simp only [cond_false, sNext, Ok_next]
      exact ⟨done ++ [t], _, _, _, _, by rw [hE], by rw [List.append_assoc]; exact hd⟩
    | true =>
      rw [hb, if_pos rfl] at hE
      simp only [cond_true]
      have s1 : sAtSetd (.s 3) (eVar 6) (eVar 7) (E (nbOf (swE done L (stsOk u))) (.sh (.str (kS t.n))) (.sh (iv t.g)) (.sh (iv t.l)) (.sh (iv t.r))) = .next (E (addN (nbOf (swE done L (stsOk u))) t.l t.r) (.sh (.str (kS t.n))) (.sh (iv t.g)) (.sh (iv t.l)) (.sh (iv t.r))) :=
        setd_nb (i := 3) rfl rfl (fun _ => rfl) (by omega) (by have := l2 t.l; omega)
      have k1 := len_addN (nbOf (swE done L (stsOk u))) t.l t.r
      have s2 : sAtSetd (.s 3) (eVar 7) (eVar 6) (E (addN (nbOf (swE done L (stsOk u))) t.l t.r) (.sh (.str (kS t.n))) (.sh (iv t.g)) (.sh (iv t.l)) (.sh (iv t.r))) = .next (E (addN (addN (nbOf (swE done L (stsOk u))) t.l t.r) t.r t.l) (.sh (.str (kS t.n))) (.sh (iv t.g)) (.sh (iv t.l)) (.sh (iv t.r))) :=
        setd_nb (i := 3) rfl rfl (fun _ => rfl) (by have := k1.1; omega) (by have := k1.2 t.r; have := l2 t.r; omega)
      rw [Ok_seq, s1, Ok_next]
      refine Then.mk ?_
      unfold m_neighbours_over_ba_1
      rw [s2, Ok_next]
      refine ⟨done ++ [t], .sh (.str (kS t.n)), .sh (iv t.g), .sh (iv t.l), .sh (iv t.r), ?_, by rw [List.append_assoc]; exact hd⟩
      have : nbOf (swE (done ++ [t]) L (stsOk u)) = addN (addN (nbOf (swE done L (stsOk u))) t.l t.r) t.r t.l := by
        rw [hE]
        unfold nbOf addE
        rw [List.foldl_append]
        rfl
      rw [this]
  · rintro env ⟨done, s4, s5, s6, s7, rfl, hd⟩
    rw [List.append_nil] at hd
    subst hd
    refine Then.mk ?_
    unfold m_neighbours_over_2
    have hf : sFreezeT 3 (E (nbOf (swE done L (stsOk u))) s4 s5 s6 s7) = .next [.sh (.lst (done.map Tn.v)), .sh (.lst (L.map iv)), .sh (stsV u), .sh (nbV (nbOf (swE done L (stsOk u)))), s4, s5, s6, s7] := by
      show Flow.next [.sh (.lst (done.map Tn.v)), .sh (.lst (L.map iv)), .sh (stsV u), .sh (nbT (nbOf (swE done L (stsOk u)))).val, s4, s5, s6, s7] = _
      rw [nbT_val]
    rw [Ok_seq, hf, Ok_next]
    refine Then.mk ?_; unfold m_neighbours_over_3; simp! []
/-! reached -/
def fxV (ks : List Nat) (lv : Nat → Nat) : Val := .dct (kvsN ks fun n => iv (lv n))
theorem filter_perm_len {l : List Nat} {n : Nat} (hn : l.Nodup) (h : ∀ x ∈ l, x < n) : l.length ≤ n := by
  have p : l.Perm ((List.range n).filter fun x => decide (x ∈ l)) := by
    rw [List.perm_ext_iff_of_nodup hn (List.nodup_range.filter _)]
    intro x
    rw [List.mem_filter, List.mem_range, decide_eq_true_iff]
    exact ⟨fun q => ⟨h x q, q⟩, fun q => q.2⟩
  rw [p.length_eq]
  have := List.length_filter_le (fun x => decide (x ∈ l)) (List.range n)
  rwa [List.length_range] at this
theorem reached_ok (n : Nat) (E : List (Nat × Nat)) (ks : List Nat) (lv : Nat → Nat) (s : List Nat) (hn : n ≤ 20000) (hE : ∀ a b, Adj E a b → b < n) (hk : ks.length ≤ 20000) (hl : E.length ≤ 100000) : ∃ fd : List Nat, f_reached [nbV (nbOf E), fxV ks lv, .tup (s.map iv)] = .ret (.dct (kvsN fd fun _ => .bl true)) ∧ ∀ b, b ∈ fd ↔ Reach E ks lv s b := by
  suffices h : ∃ y, f_reached [nbV (nbOf E), fxV ks lv, .tup (s.map iv)] = .ret y ∧ ∃ fd : List Nat, y = .dct (kvsN fd fun _ => .bl true) ∧ ∀ b, b ∈ fd ↔ Reach E ks lv s b by
    obtain ⟨y, h1, fd, rfl, h2⟩ := h
    exact ⟨fd, h1, h2⟩
  refine defn_some rfl ?_
  let V : List Nat → List Nat → Slot → Slot → Env := fun fd wt s5 s6 => [.sh (nbV (nbOf E)), .sh (fxV ks lv), .sh (.tup (s.map iv)), .oD (kvsN fd fun _ => .bl true), .oL (wt.map iv), s5, s6]
  unfold m_reached
  have h0 : sOwnD 3 (eC (.dct [])) (startE 7 [nbV (nbOf E), fxV ks lv, .tup (s.map iv)]) = .next [.sh (nbV (nbOf E)), .sh (fxV ks lv), .sh (.tup (s.map iv)), .oD [], .un, .un, .un] := rfl
  rw [Ok_seq, h0, Ok_next]
  refine Then.mk ?_
  unfold m_reached_1
  have h1 : sLockS 1 (sOwn 4 e_reached_1) [.sh (nbV (nbOf E)), .sh (fxV ks lv), .sh (.tup (s.map iv)), .oD [], .un, .un, .un] = .next (V [] (ks.filter fun a => decide (lv a ∈ s)) .un .un) := by
    have e : e_reached_1 [.sh (nbV (nbOf E)), .sh (fxV ks lv), .sh (.tup (s.map iv)), .un, .un, .un, .un] = .ok (.lst ((ks.filter fun a => decide (lv a ∈ s)).map iv)) := by
      unfold e_reached_1
      rw [eComp_ok iv (fun a => decide (lv a ∈ s)) iv ks (by show Res.ok ((kvsN ks _).map fun kv => keyVal kv.1) = _; rw [kvsN_keys]) (by omega)]
      intro a ha
      refine ⟨_, rfl, ?_, fun _ => rfl⟩
      have hx : vIx (fxV ks lv) (iv a) = .ok (iv (lv a)) := ix_kvsN _ ha
      have : ∀ x3 x4 x6 : Slot, (e2 vIn (e2 vIx (eVar 1) (eVar 5)) (eVar 2)) [.sh (nbV (nbOf E)), .sh (fxV ks lv), .sh (.tup (s.map iv)), x3, x4, .sh (iv a), x6] = .ok (.bl (decide (lv a ∈ s))) := fun _ _ _ => by
        simp! [hx]
        exact in_ints _ _
      unfold bVal
      show ((e2 vIn (e2 vIx (eVar 1) (eVar 5)) (eVar 2)) [.sh (nbV (nbOf E)), .sh (fxV ks lv), .sh (.tup (s.map iv)), _, _, .sh (iv a), _]).bind _ = _
      rw [this]
      rfl
    show noExc ((e_reached_1 [.sh (nbV (nbOf E)), .sh (fxV ks lv), .sh (.tup (s.map iv)), .un, .un, .un, .un]).flow _ _) = _
    rw [e]
    rfl
  rw [Ok_seq, h1, Ok_next]
  refine Then.mk ?_
  unfold m_reached_2 m_reached_c_F
  rw [Ok_seq]
  let src : Nat → Prop := fun a => a ∈ ks ∧ lv a ∈ s
  let I : List Nat → List Nat → Prop := fun fd wt => (∀ b ∈ fd, Reach E ks lv s b) ∧ (∀ a ∈ wt, src a ∨ a ∈ fd) ∧ fd.Nodup ∧ (∀ b ∈ fd, b < n)
  have wl : ∀ {fd wt : List Nat}, I fd wt → fd.length ≤ n := fun h => filter_perm_len h.2.2.1 h.2.2.2
  refine Ok_while (whileL_ok (fun k env => ∃ (fd wt : List Nat) (s5 s6 : Slot), env = V fd wt s5 s6 ∧ I fd wt ∧ (∀ a, (src a ∨ a ∈ fd) → a ∉ wt → ∀ b, Adj E a b → b ∉ ks → b ∈ fd) ∧ 2 * (n - fd.length) + wt.length ≤ k ∧ k ≤ 99999) ?_ _ 99999 _ (by omega) ⟨[], _, .un, .un, rfl, ⟨fun b hb => (by cases hb), fun a ha => ?_, .nil, fun b hb => (by cases hb)⟩, fun a ha hw => ?_, ?_, Nat.le_refl _⟩)
  · rintro k env ⟨fd, wt, s5, s6, rfl, hI, hc, hm, hk9⟩
    refine ⟨!wt.isEmpty, ?_, fun hb => ?_, fun hb => ?_⟩
    · show Res.ok (!(wt.map iv).isEmpty) = _
      cases wt <;> rfl
    · -- one is taken
      have hne : wt ≠ [] := fun z => by subst z; cases hb
      obtain ⟨w, a, rfl⟩ : ∃ w a, wt = w ++ [a] := ⟨wt.dropLast, wt.getLast hne, (List.dropLast_concat_getLast hne).symm⟩
      have hpop : sPopTo 4 5 (V fd (w ++ [a]) s5 s6) = .next (V fd w (.sh (iv a)) s6) := by
        unfold sPopTo
        show (match ((w ++ [a]).map iv)[((w ++ [a]).map iv).length - 1]? with | some x => _ | none => _) = _
        have : ((w ++ [a]).map iv)[((w ++ [a]).map iv).length - 1]? = some (iv a) := by
          rw [List.length_map, List.length_append, List.getElem?_map, show [a].length = 1 from rfl, Nat.add_sub_cancel, List.getElem?_append_right (Nat.le_refl _), Nat.sub_self]
          rfl
        rw [this]
        show (if 5 < 7 ∧ 4 ≠ 5 then Flow.next [.sh (nbV (nbOf E)), .sh (fxV ks lv), .sh (.tup (s.map iv)), .oD (kvsN fd fun _ => .bl true), .oL ((w ++ [a]).map iv).dropLast, .sh (iv a), s6] else .bad) = _
        rw [if_pos (by decide), List.map_append, show [a].map iv = [iv a] from rfl, List.dropLast_concat]
      unfold m_reached_c_L
      rw [Ok_seq, hpop, Ok_next]
      refine Then.mk ?_
      unfold m_reached_cb_F
      have hit : (iSeq (eGet2 (eVar 0) (eVar 5) (eArgs vLst aNil))) (hide (V fd w (.sh (iv a)) s6)) = .ok ((lookN (nbOf E) a).map iv) := by
        have : (eGet2 (eVar 0) (eVar 5) (eArgs vLst aNil)) (hide (V fd w (.sh (iv a)) s6)) = .ok (rowV (lookN (nbOf E) a)) := get_nbV _ _
        unfold iSeq
        rw [this]
        rfl
      refine Ok_for hit ?_
      have ha : src a ∨ a ∈ fd := hI.2.1 a (by simp)
      have hlw : (w ++ [a]).length = w.length + 1 := by simp
      have hfn := wl hI
      refine forL_ind iv (fun rest env => ∃ (dn fd' wt' : List Nat) (s6 : Slot), env = V fd' wt' (.sh (iv a)) s6 ∧ dn ++ rest = lookN (nbOf E) a ∧ I fd' wt' ∧ (∀ x ∈ fd, x ∈ fd') ∧ (∀ x, (src x ∨ x ∈ fd') → x ∉ wt' → x ≠ a → ∀ b, Adj E x b → b ∉ ks → b ∈ fd') ∧ (∀ b ∈ dn, b ∉ ks → b ∈ fd') ∧ 2 * (n - fd'.length) + wt'.length + 1 ≤ k ∧ (a ∉ wt' → ∀ b ∈ dn, b ∉ ks → b ∈ fd')) ?_ ?_ _ _ ⟨[], fd, w, s6, rfl, rfl, ⟨hI.1, fun x hx => hI.2.1 x (List.mem_append_left _ hx), hI.2.2⟩, fun _ h => h, fun x hx hw hxa => hc x hx (fun z => by
          rcases List.mem_append.mp z with z | z
          · exact hw z
          · exact hxa (List.mem_singleton.mp z)), fun b hb => (by cases hb), by omega, fun _ b hb => (by cases hb)⟩
      · rintro b rest env ⟨dn, fd', wt', s6, rfl, hdn, hI', hsub, hc', hdone, hm', _⟩
        refine ⟨V fd' wt' (.sh (iv a)) (.sh (iv b)), rfl, ?_⟩
        have hadj : Adj E a b := (mem_nbOf E a b).mp (by rw [← hdn]; simp)
        have t1 : (bVal (e2 vNotIn (eVar 6) (eVar 1))) (V fd' wt' (.sh (iv a)) (.sh (iv b))) = .ok (!decide (b ∈ ks)) := by
          have : (e2 vNotIn (eVar 6) (eVar 1)) (V fd' wt' (.sh (iv a)) (.sh (iv b))) = .ok (.bl (!decide (b ∈ ks))) := notIn_kvsN _ _ _
          unfold bVal; rw [this]; rfl
        have t2 : (bVal (e2 vNotIn (eVar 6) (eVar 3))) (V fd' wt' (.sh (iv a)) (.sh (iv b))) = .ok (!decide (b ∈ fd')) := by
          have : (e2 vNotIn (eVar 6) (eVar 3)) (V fd' wt' (.sh (iv a)) (.sh (iv b))) = .ok (.bl (!decide (b ∈ fd'))) := notIn_kvsN _ _ _
          unfold bVal; rw [this]; rfl
        have tt : (bAnd (bVal (e2 vNotIn (eVar 6) (eVar 1))) (bVal (e2 vNotIn (eVar 6) (eVar 3)))) (V fd' wt' (.sh (iv a)) (.sh (iv b))) = .ok (!decide (b ∈ ks) && !decide (b ∈ fd')) := by
          unfold bAnd
          rw [t1, Res.bind_ok, t2]
          cases (!decide (b ∈ ks)) <;> rfl
        unfold m_reached_cb_L sIf
        rw [tt]
        simp only [Res.flow_ok]
        by_cases hb : b ∉ ks ∧ b ∉ fd'
        · have : (!decide (b ∈ ks) && !decide (b ∈ fd')) = true := by rw [decide_eq_false hb.1, decide_eq_false hb.2]; rfl
          rw [this]
          simp only [cond_true]
          have hRb : Reach E ks lv s b := by
            rcases ha with ha | ha
            · exact .fix ha.1 ha.2 hadj hb.1
            · exact .go (hI'.1 a (hsub a ha)) hadj hb.1
          have hbn : b < n := hE a b hadj
          have hI2 : I (fd' ++ [b]) (wt' ++ [b]) := by
            refine ⟨fun x hx => ?_, fun x hx => ?_, ?_, fun x hx => ?_⟩
            · rcases List.mem_append.mp hx with hx | hx
              · exact hI'.1 x hx
              · rw [List.mem_singleton.mp hx]; exact hRb
            · rcases List.mem_append.mp hx with hx | hx
              · exact (hI'.2.1 x hx).imp id fun z => List.mem_append_left _ z
              · exact .inr (List.mem_append_right _ hx)
            · rw [List.nodup_append]
              exact ⟨hI'.2.2.1, List.nodup_cons.mpr ⟨by simp, .nil⟩, fun x hx y hy z => by rw [List.mem_singleton.mp hy] at z; subst z; exact hb.2 hx⟩
            · rcases List.mem_append.mp hx with hx | hx
              · exact hI'.2.2.2 x hx
              · rw [List.mem_singleton.mp hx]; exact hbn
          have hlen := wl hI2
          rw [List.length_append, show [b].length = 1 from rfl] at hlen
          have hput : sOnD 3 (sPutD 3 (eVar 6) (eC (.bl true))) (V fd' wt' (.sh (iv a)) (.sh (iv b))) = .next (V (fd' ++ [b]) wt' (.sh (iv a)) (.sh (iv b))) := by
            show (if (kvsN fd' fun _ => Val.bl true).length < 16777216 then Flow.next [.sh (nbV (nbOf E)), .sh (fxV ks lv), .sh (.tup (s.map iv)), .oD (putV (kvsN fd' fun _ => .bl true) (.inl (b : Int)) (.bl true)), .oL (wt'.map iv), .sh (iv a), .sh (iv b)] else .bad) = _
            rw [kvsN_len, if_pos (by omega), kvsN_put, if_neg hb.2]
            have : updN (fun _ => Val.bl true) b (.bl true) = fun _ => Val.bl true := by funext x; unfold updN; split <;> rfl
            rw [this]
          have hwl : wt'.length ≤ 100000 := by omega
          rw [Ok_seq, hput, Ok_next]
          refine Then.mk ?_
          unfold m_reached_cba_1
          have happ : sAppend 4 (eVar 6) (V (fd' ++ [b]) wt' (.sh (iv a)) (.sh (iv b))) = .next (V (fd' ++ [b]) (wt' ++ [b]) (.sh (iv a)) (.sh (iv b))) := by
            show (if (wt'.map iv).length < 16777216 then Flow.next [.sh (nbV (nbOf E)), .sh (fxV ks lv), .sh (.tup (s.map iv)), .oD (kvsN (fd' ++ [b]) fun _ => .bl true), .oL (wt'.map iv ++ [iv b]), .sh (iv a), .sh (iv b)] else .bad) = _
            rw [if_pos (by rw [List.length_map]; omega)]
            show _ = Flow.next [.sh (nbV (nbOf E)), .sh (fxV ks lv), .sh (.tup (s.map iv)), .oD (kvsN (fd' ++ [b]) fun _ => .bl true), .oL ((wt' ++ [b]).map iv), .sh (iv a), .sh (iv b)]
            rw [List.map_append]
            rfl
          rw [happ, Ok_next]
          have hdn2 : ∀ x ∈ dn ++ [b], x ∉ ks → x ∈ fd' ++ [b] := fun x hx hxk => by
            rcases List.mem_append.mp hx with hx | hx
            · exact List.mem_append_left _ (hdone x hx hxk)
            · exact List.mem_append_right _ hx
          refine ⟨dn ++ [b], fd' ++ [b], wt' ++ [b], _, rfl, by rw [List.append_assoc]; exact hdn, hI2, fun x hx => List.mem_append_left _ (hsub x hx), fun x hx hxw hxa y hy hyk => ?_, hdn2, ?_, fun _ => hdn2⟩
          · have hxb : x ≠ b := fun z => hxw (by rw [z]; simp)
            refine List.mem_append_left _ (hc' x ?_ (fun z => hxw (List.mem_append_left _ z)) hxa y hy hyk)
            rcases hx with hx | hx
            · exact .inl hx
            · rcases List.mem_append.mp hx with hx | hx
              · exact .inr hx
              · exact absurd (List.mem_singleton.mp hx) hxb
          · rw [List.length_append, List.length_append, show [b].length = 1 from rfl]; omega
        · have : (!decide (b ∈ ks) && !decide (b ∈ fd')) = false := by
            by_cases h1 : b ∈ ks
            · rw [decide_eq_true h1]; rfl
            · by_cases h2 : b ∈ fd'
              · rw [decide_eq_true h2]; simp
              · exact absurd ⟨h1, h2⟩ hb
          rw [this]
          simp only [cond_false, sNext, Ok_next]
          have hdn2 : ∀ x ∈ dn ++ [b], x ∉ ks → x ∈ fd' := fun x hx hxk => by
            rcases List.mem_append.mp hx with hx | hx
            · exact hdone x hx hxk
            · rw [List.mem_singleton.mp hx] at hxk ⊢
              refine Classical.byContradiction fun z => hb ⟨hxk, z⟩
          exact ⟨dn ++ [b], fd', wt', _, rfl, by rw [List.append_assoc]; exact hdn, hI', hsub, hc', hdn2, hm', fun _ => hdn2⟩
      · rintro env ⟨dn, fd', wt', s6, rfl, hdn, hI', hsub, hc', hdone, hm', _⟩
        rw [List.append_nil] at hdn
        refine ⟨2 * (n - fd'.length) + wt'.length, by omega, fd', wt', _, _, rfl, hI', fun x hx hxw y hy hyk => ?_, Nat.le_refl _, by omega⟩
        by_cases hxa : x = a
        · subst hxa
          exact hdone y (by rw [hdn]; exact (mem_nbOf E x y).mpr hy) hyk
        · exact hc' x hx hxw hxa y hy hyk
    · have hw : wt = [] := by cases wt with
        | nil => rfl
        | cons x l => cases hb
      subst hw
      refine Then.mk ?_
      unfold m_reached_3
      have hf : sFreezeD 3 (V fd [] s5 s6) = .next [.sh (nbV (nbOf E)), .sh (fxV ks lv), .sh (.tup (s.map iv)), .sh (.dct (kvsN fd fun _ => .bl true)), .oL [], s5, s6] := rfl
      rw [Ok_seq, hf, Ok_next]
      refine Then.mk ?_; unfold m_reached_4; simp! []
      refine ⟨fd, rfl, fun b => ⟨hI.1 b, fun h => ?_⟩⟩
      induction h with
      | fix h1 h2 h3 h4 => exact hc _ (.inl ⟨h1, h2⟩) (by simp) _ h3 h4
      | go _ h3 h4 ih => exact hc _ (.inr ih) (by simp) _ h3 h4
  · obtain ⟨h1, h2⟩ := List.mem_filter.mp ha
    exact .inl ⟨h1, by simpa using h2⟩
  · rcases ha with ha | ha
    · exact absurd (List.mem_filter.mpr ⟨ha.1, by simpa using ha.2⟩) hw
    · cases ha
  · have := List.length_filter_le (fun a => decide (lv a ∈ s)) ks
    rw [List.length_nil]; omega
end Lib
end Vm
end

/-! Levels: rounds, settling, the laws' networks. -/
noncomputable section
namespace Vm
local macro_rules | `(tactic| simp! [$ts,*]) => `(tactic| simp only [Ok_seq, sSet, sSetN, sOwn, sOwnN, sAppend, sAppendN, sFreeze, sForget, sIf, sRet, sRetN, sNext, sPut, sDrop, sAug, sOn, sItem, sItemN, itemPut, sBreak, sCont, hide, Slot.hide, eVar, eC, e1, e2, eArgs, eAnd, eOr, eNot, eIf, eChain, eCall, eCut, partOf, aNil, aCons, asBl, bVal, bTruth, bAnd, bOr, bNot, bYes, truth, vAdd_int, vAdd_lst, vAdd_tup, vSub, vMul_int, vDiv_int, vMod_int, vPow18, vPow12, vPow11, vPow9, vPow6, vNeg, vLt, vLe, vGt, vGe, vEq, vNe, eqR_int, eqR_bl, eqR_str, vIsi, Val.isOb, vTup, vLst, vLen_lst, vLen_tup, vInt, vIs, vIsNot, vIx_lst, vIx_tup, vIx_dct, vListOf, vTupOf, vIpAdd, vMax2, vMax3, vMin2, Val.ty, Ty.sub, noLst_int, noLst_bl, noLst_str, noLst_non, noLst_tup, noLsts_nil, noLsts_cons, noLsts_ints, pName, pTup, pTupL, putAll, iSeq, itemsOf, iRange1, iRange2, DR.res, Res.ofOpt_some, Res.ofOpt_none, Res.bind_ok, Res.bind_exc, Res.bind_bad, Res.nx_ok, Res.flow_ok, Res.flow_bad, Flow.bind_next, Flow.bind_ret, Flow.bind_brk, Flow.bind_cont, Flow.bind_bad, Ok_next, Ok_ret, Ok_brk, Ok_cont, Ok_bind, Ok_cond, Ok_ite, Ok_ofOpt, flow_ite, bind_ite, nx_ite', flow_cond, bind_cond, cond_andV, cond_orV, cond_and, cond_or, atI_nat, atI_0, atI_1, atI_lit, startE, List.map_cons, List.map_nil, List.length_cons, List.length_nil, List.getElem?_cons_zero, List.getElem?_cons_succ, List.set_cons_zero, List.set_cons_succ, List.set_nil, List.replicate, List.append_nil, List.cons_append, List.nil_append, Nat.sub_self, Nat.reduceAdd, Nat.reduceSub, Nat.reduceLT, Nat.reduceLeDiff, Nat.reduceEqDiff, Int.reduceLE, Int.reduceLT, Int.reduceToNat, Int.reducePow, Int.reduceMul, Int.reduceAdd, Int.reduceSub, Int.reduceNeg, Int.cast_ofNat_Int, if_true, if_false, ↓reduceIte, reduceCtorEq, beq_self_eq_true, and_true, true_and, decide_eq_true_eq, decide_eq_false_iff_not, Bool.not_eq_true', Bool.not_eq_false', Bool.and_true, Bool.true_and, Bool.or_true, Bool.and_false, Bool.or_false, Bool.false_or, Bool.true_or, Bool.false_and, Bool.not_true, Bool.not_false, beq_iff_eq, forall_const, false_implies, Option.map_some, decide_true, decide_false, cond_true, cond_false, $ts,*])
theorem eqvs_ivs : ∀ (as bs : List Nat), eqvs (as.map iv) (bs.map iv) = decide (as = bs)
  | [], [] => rfl
  | [], _ :: _ => rfl
  | _ :: _, [] => rfl
  | a :: as, b :: bs => by
    show (((a : Int) == (b : Int)) && eqvs (as.map iv) (bs.map iv)) = _
    rw [eqvs_ivs as bs, Bool.eq_iff_iff]
    simp
    omega
theorem eqR_ivs (as bs : List Nat) : eqR (.lst (as.map iv)) (.lst (bs.map iv)) = .ok (decide (as = bs)) := by
  unfold eqR
  have d : ∀ xs : List Nat, (Val.lst (xs.map iv)).isData = true := fun xs => datas_map xs fun _ _ => rfl
  have e : ∀ xs : List Nat, (Val.lst (xs.map iv)).depth ≤ 64 := fun xs => by
    have : Val.depths (xs.map iv) ≤ 0 := depths_map xs fun _ _ => Nat.le_refl _
    show Val.depths (xs.map iv) + 1 ≤ 64
    omega
  rw [if_neg (by simp [scal2, Val.isFlat]), if_pos (by simp [d, e])]
  rw [← eqvs_ivs as bs]
  rfl
theorem ne_ivs (as bs : List Nat) : vNe (.lst (as.map iv)) (.lst (bs.map iv)) = .ok (.bl (!decide (as = bs))) := by
  unfold vNe
  rw [eqR_ivs]
  rfl
theorem rangeL_ivs (n : Nat) : rangeL 0 n = (List.range n).map iv := by
  unfold rangeL
  apply List.map_congr_left
  intro k _
  show Val.int _ = Val.int _
  congr 1
  omega
namespace Lib
open PySem
theorem level_of_ok (a b c d : Bool) : f_level_of [.bl a, .bl b, .bl c, .bl d] = .ret (iv (lvOf a b c d)) := by
  refine defn_ret rfl ?_
  rw [Ok_eq]
  cases a <;> cases b <;> cases c <;> cases d <;> rfl
/-- the network's nodes are there -/
def NodesIn (n : Nat) (ts : List Tn) : Prop := ∀ t ∈ ts, t.g < n ∧ t.l < n ∧ t.r < n
theorem adj_lt {n : Nat} {ts : List Tn} (h : NodesIn n ts) (L : List Nat) (ok : Option Bool → Bool) (a b : Nat) (q : Adj (swE ts L ok) a b) : b < n := by
  unfold Adj swE at q
  rcases q with q | q
  · obtain ⟨t, ht, e⟩ := List.mem_map.mp q
    have := h t (List.mem_filter.mp ht).1
    cases e; exact this.2.2
  · obtain ⟨t, ht, e⟩ := List.mem_map.mp q
    have := h t (List.mem_filter.mp ht).1
    cases e; exact this.2.1
theorem next_levels_ok (ts : List Tn) (ks : List Nat) (lv : Nat → Nat) (L : List Nat) (hN : NodesIn L.length ts) (hL : L.length ≤ 20000) (ht : ts.length ≤ 100000) (hk : ks.length ≤ 20000) : f_next_levels [.lst (ts.map Tn.v), fxV ks lv, .lst (L.map iv)] = .ret (.lst ((nextP ts ks lv L).map iv)) := by
  have sl : ∀ ok : Option Bool → Bool, (swE ts L ok).length ≤ 100000 := fun ok => by
    unfold swE
    rw [List.length_map]
    have := List.length_filter_le (fun t => ok (stOf t (L.getD t.g 0))) ts
    omega
  have nb : ∀ u, f_neighbours_over [.lst (ts.map Tn.v), .lst (L.map iv), stsV u] = .ret (nbV (nbOf (swE ts L (stsOk u)))) := fun u => neighbours_ok ts L u (fun t h => (hN t h).1) ht
  have n0 : f_neighbours_over [.lst (ts.map Tn.v), .lst (L.map iv), .tup [.str "on"]] = .ret (nbV (nbOf (swE ts L isOn))) := nb false
  have n1 : f_neighbours_over [.lst (ts.map Tn.v), .lst (L.map iv), .tup [.str "on", .str "undecided"]] = .ret (nbV (nbOf (swE ts L notOff))) := nb true
  obtain ⟨f0, r0, e0⟩ := reached_ok L.length (swE ts L isOn) ks lv [0] hL (adj_lt hN L _) hk (sl _)
  obtain ⟨f1, r1, e1⟩ := reached_ok L.length (swE ts L isOn) ks lv [1] hL (adj_lt hN L _) hk (sl _)
  obtain ⟨g0, q0, d0⟩ := reached_ok L.length (swE ts L notOff) ks lv [0, 3] hL (adj_lt hN L _) hk (sl _)
  obtain ⟨g1, q1, d1⟩ := reached_ok L.length (swE ts L notOff) ks lv [1, 3] hL (adj_lt hN L _) hk (sl _)
  have r0 : f_reached [nbV (nbOf (swE ts L isOn)), fxV ks lv, .tup [.int 0]] = _ := r0
  have r1 : f_reached [nbV (nbOf (swE ts L isOn)), fxV ks lv, .tup [.int 1]] = _ := r1
  have q0 : f_reached [nbV (nbOf (swE ts L notOff)), fxV ks lv, .tup [.int 0, .int 3]] = _ := q0
  have q1 : f_reached [nbV (nbOf (swE ts L notOff)), fxV ks lv, .tup [.int 1, .int 3]] = _ := q1
  have dec : ∀ {E : List (Nat × Nat)} {s f : List Nat}, (∀ b, b ∈ f ↔ Reach E ks lv s b) → ∀ n, decide (n ∈ f) = RB E ks lv s n := fun h n => by
    rw [Bool.eq_iff_iff, RB_iff, decide_eq_true_iff]
    exact h n
  let FD : List Nat → Val := fun f => .dct (kvsN f fun _ => .bl true)
  let E : List Nat → Slot → Slot → Env := fun done s10 s11 => [.sh (.lst (ts.map Tn.v)), .sh (fxV ks lv), .sh (.lst (L.map iv)), .sh (nbV (nbOf (swE ts L isOn))), .sh (nbV (nbOf (swE ts L notOff))), .sh (FD f0), .sh (FD f1), .sh (FD g0), .sh (FD g1), .oL (done.map iv), s10, s11]
  refine defn_ret rfl ?_
  unfold m_next_levels
  simp! [n0]
  refine Then.mk ?_; unfold m_next_levels_1; simp! [n1]
  refine Then.mk ?_; unfold m_next_levels_2; simp! [r0]
  refine Then.mk ?_; unfold m_next_levels_3; simp! [r1]
  refine Then.mk ?_; unfold m_next_levels_4; simp! [q0]
  refine Then.mk ?_; unfold m_next_levels_5; simp! [q1]
  refine Then.mk ?_; unfold m_next_levels_6; simp! []
  refine Then.mk ?_
  unfold m_next_levels_7 m_next_levels_h_F
  rw [Ok_seq]
  have hit : (iEnumV (eVar 2)) (hide (E [] .un .un)) = .ok (((L.zipIdx 0).map fun p => .tup [.int (p.2 : Nat), iv p.1])) := by
    show Res.ok (enumL 0 (L.map iv)) = _
    rw [enumL_map]
  refine Ok_for hit ?_
  refine forL_ind (fun p : Nat × Nat => .tup [.int (p.2 : Nat), iv p.1]) (fun rest env => ∃ (i : Nat) (s10 s11 : Slot), env = E ((nextP ts ks lv L).take i) s10 s11 ∧ rest = (L.zipIdx 0).drop i ∧ i ≤ L.length) ?_ ?_ _ _ ⟨0, .un, .un, rfl, rfl, Nat.zero_le _⟩
  · rintro ⟨x, j⟩ rest env ⟨i, s10, s11, rfl, hr, hi⟩
    have hlt : i < L.length := by
      have := congrArg List.length hr
      rw [List.length_cons, List.length_drop, List.length_zipIdx] at this
      omega
    have hd : (L.zipIdx 0).drop i = (L.zipIdx 0)[i]'(by rw [List.length_zipIdx]; exact hlt) :: (L.zipIdx 0).drop (i + 1) := List.drop_eq_getElem_cons _
    rw [hd] at hr
    injection hr with h1 h2
    rw [List.getElem_zipIdx] at h1
    injection h1 with h3 h4
    have hj : j = i := by omega
    subst hj
    refine ⟨E ((nextP ts ks lv L).take j) (.sh (.int (j : Nat))) (.sh (iv x)), rfl, ?_⟩
    have hx : L.getD j 0 = x := by rw [List.getD_eq_getElem?_getD, List.getElem?_eq_getElem hlt, h3]; rfl
    have hnl : j < (nextP ts ks lv L).length := by rw [nextP_len]; exact hlt
    have hget : (nextP ts ks lv L)[j] = nxt ts ks lv L j := by
      have := nextP_get ts ks lv L hlt
      rw [List.getD_eq_getElem?_getD, List.getElem?_eq_getElem hnl] at this
      exact this
    have htk : (nextP ts ks lv L).take (j + 1) = (nextP ts ks lv L).take j ++ [nxt ts ks lv L j] := by rw [List.take_succ_eq_append_getElem hnl, hget]
    have tk : (bVal (e2 vIn (eVar 10) (eVar 1))) (E ((nextP ts ks lv L).take j) (.sh (.int (j : Nat))) (.sh (iv x))) = .ok (decide (j ∈ ks)) := by
      have : (e2 vIn (eVar 10) (eVar 1)) (E ((nextP ts ks lv L).take j) (.sh (.int (j : Nat))) (.sh (iv x))) = .ok (.bl (decide (j ∈ ks))) := in_kvsN _ _ _
      unfold bVal; rw [this]; rfl
    have app : ∀ (m : EX) (y : Nat), m (hide (E ((nextP ts ks lv L).take j) (.sh (.int (j : Nat))) (.sh (iv x)))) = .ok (iv y) → y = nxt ts ks lv L j → sAppend 9 m (E ((nextP ts ks lv L).take j) (.sh (.int (j : Nat))) (.sh (iv x))) = .next (E ((nextP ts ks lv L).take (j + 1)) (.sh (.int (j : Nat))) (.sh (iv x))) := by
      intro m y hm hy
      show ((m (hide (E ((nextP ts ks lv L).take j) (.sh (.int (j : Nat))) (.sh (iv x))))).flow _ fun z => if (((nextP ts ks lv L).take j).map iv).length < 16777216 then _ else _) = _
      rw [hm]
      simp only [Res.flow_ok]
      rw [if_pos (by rw [List.length_map, List.length_take]; omega), htk, ← hy]
      show _ = Flow.next (E ((nextP ts ks lv L).take j ++ [y]) _ _)
      show Flow.next [.sh (.lst (ts.map Tn.v)), .sh (fxV ks lv), .sh (.lst (L.map iv)), .sh (nbV (nbOf (swE ts L isOn))), .sh (nbV (nbOf (swE ts L notOff))), .sh (FD f0), .sh (FD f1), .sh (FD g0), .sh (FD g1), .oL (((nextP ts ks lv L).take j).map iv ++ [iv y]), _, _] = Flow.next [.sh (.lst (ts.map Tn.v)), .sh (fxV ks lv), .sh (.lst (L.map iv)), .sh (nbV (nbOf (swE ts L isOn))), .sh (nbV (nbOf (swE ts L notOff))), .sh (FD f0), .sh (FD f1), .sh (FD g0), .sh (FD g1), .oL (((nextP ts ks lv L).take j ++ [y]).map iv), _, _]
      rw [List.map_append]
      rfl
    unfold m_next_levels_h_L sIf
    rw [tk]
    simp only [Res.flow_ok]
    by_cases hjk : j ∈ ks
    · rw [decide_eq_true hjk]
      simp only [cond_true]
      rw [app (eVar 11) x rfl (by unfold nxt; rw [if_pos hjk, hx]), Ok_next]
      exact ⟨j + 1, _, _, rfl, h2, hlt⟩
    · rw [decide_eq_false hjk]
      simp only [cond_false]
      have lo := level_of_ok (decide (j ∈ f0)) (decide (j ∈ f1)) (decide (j ∈ g0)) (decide (j ∈ g1))
      have i0 : vIn (.int (j : Nat)) (FD f0) = .ok (.bl (decide (j ∈ f0))) := in_kvsN _ _ _
      have i1 : vIn (.int (j : Nat)) (FD f1) = .ok (.bl (decide (j ∈ f1))) := in_kvsN _ _ _
      have i2 : vIn (.int (j : Nat)) (FD g0) = .ok (.bl (decide (j ∈ g0))) := in_kvsN _ _ _
      have i3 : vIn (.int (j : Nat)) (FD g1) = .ok (.bl (decide (j ∈ g1))) := in_kvsN _ _ _
      have ev : (eCall f_level_of (aCons (e2 vIn (eVar 10) (eVar 5)) (aCons (e2 vIn (eVar 10) (eVar 6)) (aCons (e2 vIn (eVar 10) (eVar 7)) (aCons (e2 vIn (eVar 10) (eVar 8)) aNil))))) (hide (E ((nextP ts ks lv L).take j) (.sh (.int (j : Nat))) (.sh (iv x)))) = .ok (iv (lvOf (decide (j ∈ f0)) (decide (j ∈ f1)) (decide (j ∈ g0)) (decide (j ∈ g1)))) := by
        simp! [E, i0, i1, i2, i3, lo]
      rw [app _ _ ev (by unfold nxt; rw [if_neg hjk, dec e0, dec e1, dec d0, dec d1]), Ok_next]
      exact ⟨j + 1, _, _, rfl, h2, hlt⟩
  · rintro env ⟨i, s10, s11, rfl, hr, hi⟩
    have hil : i = L.length := by
      have := congrArg List.length hr
      rw [List.length_nil, List.length_drop, List.length_zipIdx] at this
      omega
    have : (nextP ts ks lv L).take i = nextP ts ks lv L := List.take_of_length_le (by rw [nextP_len]; omega)
    rw [this]
    refine Then.mk ?_; unfold m_next_levels_8; simp! [E]
    refine Then.mk ?_; unfold m_next_levels_9; simp! []
theorem check_nodes_ok (n : Nat) (ts : List Tn) (ks : List Nat) (lv : Nat → Nat) (hN : NodesIn n ts) (hk : ∀ k ∈ ks, k < n) (ht : ts.length ≤ 100000) (hkl : ks.length ≤ 20000) : f_check_nodes [iv n, .lst (ts.map Tn.v), fxV ks lv] = .ret .non := by
  refine defn_ret rfl ?_
  let E : List Nat → Slot → Slot → Slot → Slot → Env := fun nodes s5 s6 s7 s8 => [.sh (iv n), .sh (.lst (ts.map Tn.v)), .sh (fxV ks lv), .oL (nodes.map iv), .un, s5, s6, s7, s8]
  have h0 : sOwn 3 (eArgs vListOfD (aCons (eVar 2) aNil)) (startE 9 [iv n, .lst (ts.map Tn.v), fxV ks lv]) = .next (E ks .un .un .un .un) := by
    show Flow.next [.sh (iv n), .sh (.lst (ts.map Tn.v)), .sh (fxV ks lv), .oL ((kvsN ks fun n => iv (lv n)).map fun kv => keyVal kv.1), .un, .un, .un, .un, .un] = _
    rw [kvsN_keys]
  unfold m_check_nodes
  rw [Ok_seq, h0, Ok_next]
  refine Then.mk ?_
  unfold m_check_nodes_1 m_check_nodes_b_F
  rw [Ok_seq]
  refine Ok_for (xs := ts.map Tn.v) rfl ?_
  refine forL_ind Tn.v (fun rest env => ∃ (nodes : List Nat) (s5 s6 s7 s8 : Slot), env = E nodes s5 s6 s7 s8 ∧ (∀ k ∈ nodes, k < n) ∧ (∀ t ∈ rest, t ∈ ts) ∧ nodes.length + 3 * rest.length ≤ ks.length + 3 * ts.length) ?_ ?_ _ _ ⟨ks, .un, .un, .un, .un, rfl, hk, fun _ h => h, Nat.le_refl _⟩
  · rintro t rest env ⟨nodes, s5, s6, s7, s8, rfl, hn, hr, hl⟩
    have hT := hN t (hr t List.mem_cons_self)
    rw [List.length_cons] at hl
    refine ⟨E nodes (.sh (.str (kS t.n))) (.sh (iv t.g)) (.sh (iv t.l)) (.sh (iv t.r)), rfl, ?_⟩
    have hx : sExtend 3 (eArgs vLst (aCons (eVar 6) (aCons (eVar 7) (aCons (eVar 8) aNil)))) (E nodes (.sh (.str (kS t.n))) (.sh (iv t.g)) (.sh (iv t.l)) (.sh (iv t.r))) = .next (E (nodes ++ [t.g, t.l, t.r]) (.sh (.str (kS t.n))) (.sh (iv t.g)) (.sh (iv t.l)) (.sh (iv t.r))) := by
      show (if (nodes.map iv).length + 3 ≤ 16777216 then Flow.next [.sh (iv n), .sh (.lst (ts.map Tn.v)), .sh (fxV ks lv), .oL (nodes.map iv ++ [iv t.g, iv t.l, iv t.r]), .un, .sh (.str (kS t.n)), .sh (iv t.g), .sh (iv t.l), .sh (iv t.r)] else .bad) = _
      rw [if_pos (by rw [List.length_map]; omega)]
      show _ = Flow.next [.sh (iv n), .sh (.lst (ts.map Tn.v)), .sh (fxV ks lv), .oL ((nodes ++ [t.g, t.l, t.r]).map iv), .un, .sh (.str (kS t.n)), .sh (iv t.g), .sh (iv t.l), .sh (iv t.r)]
      rw [List.map_append]
      rfl
    unfold m_check_nodes_b_L
    rw [hx, Ok_next]
    refine ⟨nodes ++ [t.g, t.l, t.r], _, _, _, _, rfl, fun k hk => ?_, fun t ht => hr t (List.mem_cons_of_mem _ ht), by rw [List.length_append]; simp; omega⟩
    rcases List.mem_append.mp hk with hk | hk
    · exact hn k hk
    · simp only [List.mem_cons, List.not_mem_nil, or_false] at hk
      rcases hk with rfl | rfl | rfl
      · exact hT.1
      · exact hT.2.1
      · exact hT.2.2
  · rintro env ⟨nodes, s5, s6, s7, s8, rfl, hn, _, _⟩
    refine Then.mk ?_
    unfold m_check_nodes_2
    have hf : sFreeze 3 (E nodes s5 s6 s7 s8) = .next [.sh (iv n), .sh (.lst (ts.map Tn.v)), .sh (fxV ks lv), .sh (.lst (nodes.map iv)), .un, s5, s6, s7, s8] := rfl
    rw [Ok_seq, hf, Ok_next]
    refine Then.mk ?_
    unfold m_check_nodes_c_F
    refine Ok_for (xs := nodes.map iv) rfl ?_
    refine forL_ind iv (fun rest env => ∃ s4 : Slot, env = [.sh (iv n), .sh (.lst (ts.map Tn.v)), .sh (fxV ks lv), .sh (.lst (nodes.map iv)), s4, s5, s6, s7, s8] ∧ ∀ k ∈ rest, k < n) ?_ ?_ _ _ ⟨.un, rfl, hn⟩
    · rintro k rest env ⟨s4, rfl, hr⟩
      have hkn := hr k List.mem_cons_self
      refine ⟨[.sh (iv n), .sh (.lst (ts.map Tn.v)), .sh (fxV ks lv), .sh (.lst (nodes.map iv)), .sh (iv k), s5, s6, s7, s8], rfl, ?_⟩
      have tt : (bNot (bVal (eChain vLe vLt (eC (.int 0)) (eVar 4) (eVar 0)))) [.sh (iv n), .sh (.lst (ts.map Tn.v)), .sh (fxV ks lv), .sh (.lst (nodes.map iv)), .sh (iv k), s5, s6, s7, s8] = .ok false := by
        have d1 : decide ((0 : Int) ≤ (k : Int)) = true := decide_eq_true (by omega)
        have d2 : decide ((k : Int) < (n : Int)) = true := decide_eq_true (by omega)
        unfold iv
        simp! [d1, d2]
      unfold m_check_nodes_c_L sIf
      rw [tt]
      simp only [Res.flow_ok, cond_false, sNext, Ok_next]
      exact ⟨_, rfl, fun x hx => hr x (List.mem_cons_of_mem _ hx)⟩
    · rintro env _; rfl
theorem settle_ok (n : Nat) (ts : List Tn) (ks : List Nat) (lv : Nat → Nat) (hN : NodesIn n ts) (hk : ∀ k ∈ ks, k < n) (h3 : ∀ a ∈ ks, lv a = 0 ∨ lv a = 1 ∨ lv a = 3) (hn : n ≤ 20000) (ht : ts.length ≤ 100000) (hkl : ks.length ≤ 20000) : f_settle [iv n, .lst (ts.map Tn.v), fxV ks lv] = .ret (.lst ((settleP n ts ks lv).map iv)) := by
  have hc := check_nodes_ok n ts ks lv hN hk ht hkl
  have nx : ∀ L : List Nat, L.length = n → f_next_levels [.lst (ts.map Tn.v), fxV ks lv, .lst (L.map iv)] = .ret (.lst ((nextP ts ks lv L).map iv)) := fun L h => next_levels_ok ts ks lv L (by rw [h]; exact hN) (by omega) ht hkl
  have hg : ∀ t ∈ ts, t.g < n := fun t h => (hN t h).1
  refine defn_ret rfl ?_
  have e1 : e_settle_1 [.sh (iv n), .sh (.lst (ts.map Tn.v)), .sh (fxV ks lv), .un, .un, .un] = .ok (.lst ((lev0 n ks lv).map iv)) := by
    unfold e_settle_1 lev0
    rw [eComp_all iv (fun k => iv (if k ∈ ks then lv k else 3)) (List.range n) ((range1_ok (n := n) rfl (by omega)).trans (by rw [rangeL_ivs])) (by rw [List.length_range]; omega)]
    · rw [List.map_map]; rfl
    · intro k _
      refine ⟨_, rfl, ?_⟩
      show Res.ok ((getV (kvsN ks fun n => iv (lv n)) (.inl (k : Int))).getD (.int 3)) = _
      rw [kvsN_get]
      by_cases h : k ∈ ks
      · rw [if_pos h, if_pos h]; rfl
      · rw [if_neg h, if_neg h]; rfl
  unfold m_settle
  simp! [hc]
  refine Then.mk ?_
  unfold m_settle_1
  simp! [e1]
  refine Then.mk ?_; unfold m_settle_2; simp! [nx _ (lev0_len n ks lv)]
  refine Then.mk ?_
  unfold m_settle_3 m_settle_d_F
  rw [Ok_seq]
  refine Ok_while (whileL_ok (fun k env => ∃ (L : List Nat) (s5 : Slot), env = [.sh (iv n), .sh (.lst (ts.map Tn.v)), .sh (fxV ks lv), .sh (.lst (L.map iv)), .sh (.lst ((nextP ts ks lv L).map iv)), s5] ∧ L.length = n ∧ LeL L (nextP ts ks lv L) ∧ unk L ≤ k ∧ settleF ts ks lv (n + 1) L = settleP n ts ks lv) ?_ _ n _ (by omega) ⟨_, .un, rfl, lev0_len _ _ _, lev0_le _ _ _ _, by have := unk_le (lev0 n ks lv); rw [lev0_len] at this; exact this, rfl⟩)
  rintro k env ⟨L, s5, rfl, hL, hle, hu, hs⟩
  refine ⟨!decide (nextP ts ks lv L = L), ?_, fun hb => ?_, fun hb => ?_⟩
  · have : (e2 vNe (eVar 4) (eVar 3)) [.sh (iv n), .sh (.lst (ts.map Tn.v)), .sh (fxV ks lv), .sh (.lst (L.map iv)), .sh (.lst ((nextP ts ks lv L).map iv)), s5] = .ok (.bl (!decide (nextP ts ks lv L = L))) := ne_ivs _ _
    unfold bVal
    rw [this]
    rfl
  · have hne : ¬ nextP ts ks lv L = L := by simpa using hb
    have hgL : ∀ t ∈ ts, t.g < L.length := by rw [hL]; exact hg
    have hlt := unk_lt hle (fun z => hne z.symm)
    have hle2 := next_mono hgL hle (fun _ _ => .inr rfl) h3
    have hun := unk_le L
    unfold m_settle_d_L
    simp! []
    have nx2 := nx (nextP ts ks lv L) (by rw [nextP_len]; exact hL)
    refine Then.mk ?_; unfold m_settle_d_1; simp! [nx2]
    refine ⟨k - 1, by omega, nextP ts ks lv L, _, rfl, by rw [nextP_len]; exact hL, hle2, by omega, ?_⟩
    rw [← hs]
    conv => rhs; rw [settleF, if_neg hne]
    exact settle_same h3 _ _ _ (by rw [nextP_len]; exact hgL) hle2 (by omega) (by omega)
  · have he : nextP ts ks lv L = L := by simpa using hb
    have : settleP n ts ks lv = L := by rw [← hs, settleF, if_pos he]
    rw [this]
    refine Then.mk ?_; unfold m_settle_4; simp! []
/-- the laws' networks -/
structure NetOk (n : Nat) (ts : List Tn) (ks : List Nat) (lv : Nat → Nat) : Prop where
  n1 : 1 ≤ n
  n12 : n ≤ 12
  t16 : ts.length ≤ 16
  nodes : NodesIn n ts
  nd : ks.Nodup
  lt : ∀ k ∈ ks, k < n
  lv3 : ∀ a ∈ ks, lv a = 0 ∨ lv a = 1 ∨ lv a = 3
theorem NetOk.kl {n : Nat} {ts : List Tn} {ks : List Nat} {lv : Nat → Nat} (h : NetOk n ts ks lv) : ks.length ≤ n := filter_perm_len h.nd h.lt
theorem network_ok (ns : List Int) (hns : ns.length ≤ 63) : ∃ (n : Nat) (ts : List Tn) (ks : List Nat) (lv : Nat → Nat), f__law_network [.lst (ns.map .int)] = .ret (.tup [iv n, .lst (ts.map Tn.v), fxV ks lv]) ∧ NetOk n ts ks lv := by
  suffices h : ∃ y, f__law_network [.lst (ns.map .int)] = .ret y ∧ ∃ (n : Nat) (ts : List Tn) (ks : List Nat) (lv : Nat → Nat), y = .tup [iv n, .lst (ts.map Tn.v), fxV ks lv] ∧ NetOk n ts ks lv by
    obtain ⟨y, h1, n, ts, ks, lv, rfl, h2⟩ := h
    exact ⟨n, ts, ks, lv, h1, h2⟩
  refine defn_some rfl ?_
  obtain ⟨z0, ez0⟩ := cell_k ns 0
  obtain ⟨z1, ez1⟩ := cell_k ns 1
  have ez0 : f__law_cell [.lst (ns.map .int), .int 0] = .ret (.int z0) := ez0
  have ez1 : f__law_cell [.lst (ns.map .int), .int 1] = .ret (.int z1) := ez1
  obtain ⟨ps, ep, hp⟩ := parts_k z0 [12, 4] (by
    intro n hn
    simp only [List.mem_cons, List.not_mem_nil, or_false] at hn
    omega) (by show 2 ≤ 100; omega)
  obtain ⟨p0, _, rfl, h0, hp⟩ := hp.cons
  obtain ⟨p1, _, rfl, h1, hp⟩ := hp.cons
  obtain rfl := hp.nil'
  simp only [List.map_cons, List.map_nil] at ep
  obtain ⟨n, hn⟩ : ∃ n : Nat, (1 : Int) + p0 = n := Int.eq_ofNat_of_zero_le (by omega)
  unfold m__law_network
  simp! [ez0, ep]
  refine Then.mk ?_; unfold m__law_network_1; simp! [hn]
  refine Then.mk ?_
  unfold m__law_network_2
  let E : List (Key × Val) → Slot → Slot → Env := fun kvs s4 s7 => [.sh (.lst (ns.map .int)), .sh (.lst [.int p0, .int p1]), .sh (.int n), .oD kvs, s4, .un, .un, s7]
  have hD : sOwnD 3 (eC (.dct [])) [.sh (.lst (ns.map .int)), .sh (.lst [.int p0, .int p1]), .sh (.int n), .un, .un, .un, .un, .un] = .next (E [] .un .un) := rfl
  rw [Ok_seq, hD, Ok_next]
  refine Then.mk ?_
  unfold m__law_network_3 m__law_network_d_F
  rw [Ok_seq]
  refine Ok_for (xs := rangeL 0 n) (range1_ok rfl (by omega)) ?_
  refine forL_ok _ (fun i env => ∃ (ks : List Nat) (lv : Nat → Nat) (s4 s7 : Slot), env = E (kvsN ks fun n => iv (lv n)) s4 s7 ∧ ks.Nodup ∧ (∀ k ∈ ks, k < i) ∧ ∀ a ∈ ks, lv a = 0 ∨ lv a = 1 ∨ lv a = 3) _ ⟨[], fun _ => 0, .un, .un, rfl, .nil, fun k hk => (by cases hk), fun k hk => (by cases hk)⟩ ?_ ?_
  · rintro i hi env ⟨ks, lv, s4, s7, rfl, hnd, hlt, h3⟩
    rw [range_len] at hi
    rw [range_get, Int.zero_add]
    refine ⟨E (kvsN ks fun n => iv (lv n)) (.sh (.int i)) s7, rfl, ?_⟩
    obtain ⟨qs, eq, hq⟩ := parts_k (z1 + i) [7] (by
      intro n hn
      simp only [List.mem_cons, List.not_mem_nil, or_false] at hn
      omega) (by show 1 ≤ 100; omega)
    obtain ⟨q0, _, rfl, hq0, hq⟩ := hq.cons
    obtain rfl := hq.nil'
    simp only [List.map_cons, List.map_nil] at eq
    unfold m__law_network_d_L
    simp! [E, ez1, eq]
    refine Then.mk ?_
    unfold m__law_network_d_1
    have kl : ks.length ≤ i := filter_perm_len hnd hlt
    by_cases hq4 : q0 < 4
    · have d := decide_eq_true hq4
      obtain ⟨w, hw, hw3⟩ : ∃ w : Nat, atI [Val.int 0, .int 1, .int 3, .int ((i : Int) % 2)] q0 = some (iv w) ∧ (w = 0 ∨ w = 1 ∨ w = 3) := by
        have : q0 = 0 ∨ q0 = 1 ∨ q0 = 2 ∨ q0 = 3 := by omega
        rcases this with rfl | rfl | rfl | rfl
        · exact ⟨0, rfl, by omega⟩
        · exact ⟨1, rfl, by omega⟩
        · exact ⟨3, rfl, by omega⟩
        · refine ⟨i % 2, ?_, by omega⟩
          show some (Val.int ((i : Int) % 2)) = some (.int ((i % 2 : Nat) : Int))
          congr 2
      have hput : ∀ s7 : Slot, s7 = .sh (.lst [.int q0]) → sOnD 3 (sPutD 3 (eVar 4) (e2 vIx (eArgs vLst (aCons (eC (.int 0)) (aCons (eC (.int 1)) (aCons (eC (.int 3)) (aCons (e2 vMod (eArgs vInt (aCons (eVar 4) aNil)) (eC (.int 2))) aNil))))) (e2 vIx (eVar 7) (eC (.int 0))))) (E (kvsN ks fun n => iv (lv n)) (.sh (.int i)) s7) = .next (E (kvsN (ks ++ [i]) fun n => iv (if n = i then w else lv n)) (.sh (.int i)) s7) := by
        rintro _ rfl
        have ev : (e2 vIx (eArgs vLst (aCons (eC (.int 0)) (aCons (eC (.int 1)) (aCons (eC (.int 3)) (aCons (e2 vMod (eArgs vInt (aCons (eVar 4) aNil)) (eC (.int 2))) aNil))))) (e2 vIx (eVar 7) (eC (.int 0)))) (hide (E (kvsN ks fun n => iv (lv n)) (.sh (.int i)) (.sh (.lst [.int q0])))) = .ok (iv w) := by
          simp! [E, hw]
        show sPutD 3 (eVar 4) _ _ = _
        unfold sPutD
        rw [ev]
        simp only [Res.flow_ok]
        show (if (kvsN ks fun n => iv (lv n)).length < 16777216 then Flow.next (E (putV (kvsN ks fun n => iv (lv n)) (.inl (i : Int)) (iv w)) (.sh (.int i)) (.sh (.lst [.int q0]))) else .bad) = _
        rw [kvsN_len, if_pos (by omega), kvsN_put, if_neg (fun z => by have := hlt i z; omega)]
        have : updN (fun n => iv (lv n)) i (iv w) = fun n => iv (if n = i then w else lv n) := by funext x; unfold updN; split <;> rfl
        rw [this]
      unfold sIf
      have t1 : (bVal (e2 vLt (e2 vIx (eVar 7) (eC (.int 0))) (eC (.int 4)))) (E (kvsN ks fun n => iv (lv n)) (.sh (.int i)) (.sh (.lst [.int q0]))) = .ok true := by
        simp! [E, d]
      show Ok (((bVal (e2 vLt (e2 vIx (eVar 7) (eC (.int 0))) (eC (.int 4)))) (E (kvsN ks fun n => iv (lv n)) (.sh (.int i)) (.sh (.lst [.int q0])))).flow _ _) _ _ _ _
      rw [t1]
      simp only [Res.flow_ok, cond_true]
      show Ok (sOnD 3 _ (E (kvsN ks fun n => iv (lv n)) (.sh (.int i)) (.sh (.lst [.int q0])))) _ _ _ _
      rw [hput _ rfl, Ok_next]
      refine ⟨ks ++ [i], fun n => if n = i then w else lv n, _, _, rfl, ?_, fun k hk => ?_, fun k hk => ?_⟩
      · rw [List.nodup_append]
        exact ⟨hnd, List.nodup_cons.mpr ⟨by simp, .nil⟩, fun x hx y hy z => by rw [List.mem_singleton.mp hy] at z; subst z; have := hlt x hx; omega⟩
      · rcases List.mem_append.mp hk with hk | hk
        · have := hlt k hk; omega
        · rw [List.mem_singleton.mp hk]; omega
      · show (if k = i then w else lv k) = 0 ∨ (if k = i then w else lv k) = 1 ∨ (if k = i then w else lv k) = 3
        by_cases hki : k = i
        · rw [if_pos hki]; exact hw3
        · rw [if_neg hki]
          rcases List.mem_append.mp hk with hk | hk
          · exact h3 k hk
          · exact absurd (List.mem_singleton.mp hk) hki
    · have d := decide_eq_false hq4
      unfold sIf
      have t1 : (bVal (e2 vLt (e2 vIx (eVar 7) (eC (.int 0))) (eC (.int 4)))) (E (kvsN ks fun n => iv (lv n)) (.sh (.int i)) (.sh (.lst [.int q0]))) = .ok false := by
        simp! [E, d]
      show Ok (((bVal (e2 vLt (e2 vIx (eVar 7) (eC (.int 0))) (eC (.int 4)))) (E (kvsN ks fun n => iv (lv n)) (.sh (.int i)) (.sh (.lst [.int q0])))).flow _ _) _ _ _ _
      rw [t1]
      simp only [Res.flow_ok, cond_false, sNext, Ok_next]
      exact ⟨ks, lv, .sh (.int i), .sh (.lst [.int q0]), rfl, hnd, fun k hk => by have := hlt k hk; omega, h3⟩
  · rintro env ⟨ks, lv, s4, s7, rfl, hnd, hlt, h3⟩
    rw [range_len] at hlt
    refine Then.mk ?_
    unfold m__law_network_4
    have hf : sFreezeD 3 (E (kvsN ks fun n => iv (lv n)) s4 s7) = .next [.sh (.lst (ns.map .int)), .sh (.lst [.int p0, .int p1]), .sh (.int n), .sh (fxV ks lv), s4, .un, .un, s7] := rfl
    rw [Ok_seq, hf, Ok_next]
    refine Then.mk ?_; unfold m__law_network_5; simp! []
    refine Then.mk ?_
    unfold m__law_network_6 m__law_network_f_F
    rw [Ok_seq]
    let G : List Tn → Slot → Slot → Env := fun ts s6 s7 => [.sh (.lst (ns.map .int)), .sh (.lst [.int p0, .int p1]), .sh (.int n), .sh (fxV ks lv), s4, .oL (ts.map Tn.v), s6, s7]
    obtain ⟨m, hm⟩ : ∃ m : Nat, min (16 : Int) (max 0 ((ns.length : Int) - 2)) = m := Int.eq_ofNat_of_zero_le (by omega)
    have hm16 : m ≤ 16 := by omega
    refine Ok_for (xs := rangeL 0 m) (range1_ok (n := m) (by simp! [G, List.length_map, hm]) (by omega)) ?_
    refine forL_ok _ (fun i env => ∃ (ts : List Tn) (s6 s7 : Slot), env = G ts s6 s7 ∧ ts.length = i ∧ NodesIn n ts) _ ⟨[], .un, _, rfl, rfl, fun t ht => (by cases ht)⟩ ?_ ?_
    · rintro i hi env ⟨ts, s6, s7, rfl, hl, hN⟩
      rw [range_len] at hi
      rw [range_get, Int.zero_add]
      refine ⟨G ts (.sh (.int i)) s7, rfl, ?_⟩
      obtain ⟨zi, ezi⟩ := cell_k ns (2 + i)
      have ezi : f__law_cell [.lst (ns.map .int), .int (2 + (i : Int))] = .ret (.int zi) := by
        have : ((2 + i : Nat) : Int) = 2 + (i : Int) := by omega
        rw [← this]; exact ezi
      obtain ⟨qs, eq, hq⟩ := parts_k zi [2, n, n, n] (by
        intro x hx
        simp only [List.mem_cons, List.not_mem_nil, or_false] at hx
        omega) (by show 4 ≤ 100; omega)
      obtain ⟨q0, _, rfl, hq0, hq⟩ := hq.cons
      obtain ⟨q1, _, rfl, hq1, hq⟩ := hq.cons
      obtain ⟨q2, _, rfl, hq2, hq⟩ := hq.cons
      obtain ⟨q3, _, rfl, hq3, hq⟩ := hq.cons
      obtain rfl := hq.nil'
      simp only [List.map_cons, List.map_nil] at eq
      obtain ⟨g, rfl⟩ := Int.eq_ofNat_of_zero_le hq1.1
      obtain ⟨l, rfl⟩ := Int.eq_ofNat_of_zero_le hq2.1
      obtain ⟨r, rfl⟩ := Int.eq_ofNat_of_zero_le hq3.1
      obtain ⟨b, hb⟩ : ∃ b : Bool, atI [Val.str "n", .str "p"] q0 = some (.str (kS b)) := by
        have : q0 = 0 ∨ q0 = 1 := by omega
        rcases this with rfl | rfl
        · exact ⟨true, rfl⟩
        · exact ⟨false, rfl⟩
      have hb : atI [Val.str (Str.ofString "n"), .str (Str.ofString "p")] q0 = some (.str (kS b)) := hb
      unfold m__law_network_f_L
      simp! [G, ezi, eq]
      refine Then.mk ?_
      unfold m__law_network_f_1
      simp! [hb, List.length_map, hl]
      refine ⟨by omega, ts ++ [⟨b, g, l, r⟩], .sh (.int i), .sh (.lst [.int q0, .int (g : Int), .int (l : Int), .int (r : Int)]), ?_, by rw [List.length_append, hl]; rfl, fun t ht => ?_⟩
      · rw [List.map_append]; rfl
      · rcases List.mem_append.mp ht with ht | ht
        · exact hN t ht
        · rw [List.mem_singleton.mp ht]
          exact ⟨by show g < n; omega, by show l < n; omega, by show r < n; omega⟩
    · rintro env ⟨ts, s6, s7, rfl, hl, hN⟩
      rw [range_len] at hl
      refine Then.mk ?_; unfold m__law_network_7; simp! [G]
      refine Then.mk ?_; unfold m__law_network_8; simp! []
      exact ⟨n, ts, ks, lv, rfl, by omega, by omega, by omega, hN, hnd, hlt, h3⟩
end Lib
end Vm
end

noncomputable section
namespace Vm
namespace K55
open PySem
abbrev m__law_parts : ST := Lib.m__law_parts
abbrev f__law_parts : Fn := Lib.f__law_parts

abbrev m_check_nodes : ST := Lib.m_check_nodes
abbrev f_check_nodes : Fn := Lib.f_check_nodes

abbrev m_switch_state : ST := Lib.m_switch_state
abbrev f_switch_state : Fn := Lib.f_switch_state

abbrev m_neighbours_over : ST := Lib.m_neighbours_over
abbrev f_neighbours_over : Fn := Lib.f_neighbours_over

abbrev m_reached : ST := Lib.m_reached
abbrev f_reached : Fn := Lib.f_reached

abbrev m_level_of : ST := Lib.m_level_of
abbrev f_level_of : Fn := Lib.f_level_of

abbrev m_next_levels : ST := Lib.m_next_levels
abbrev f_next_levels : Fn := Lib.f_next_levels

abbrev m_settle : ST := Lib.m_settle
abbrev f_settle : Fn := Lib.f_settle

def m__law_due_3 : ST := (sRet (eC (.int 3)))
def m__law_due_2 : ST := (sSeq (sIf (bAnd (bVal (e2 vEq (eVar 0) (eC (.str "off")))) (bVal (e2 vEq (eVar 1) (eC (.str "off"))))) (sRet (eC (.int 2))) sNext)
    m__law_due_3)
def m__law_due_1 : ST := (sSeq (sIf (bAnd (bVal (e2 vEq (eVar 1) (eC (.str "on")))) (bVal (e2 vEq (eVar 0) (eC (.str "off"))))) (sRet (e2 vSub (eC (.int 1)) (eVar 2))) sNext)
    m__law_due_2)
def m__law_due : ST := (sSeq (sIf (bAnd (bVal (e2 vEq (eVar 0) (eC (.str "on")))) (bVal (e2 vEq (eVar 1) (eC (.str "off"))))) (sRet (eVar 2)) sNext)
    m__law_due_1)
def f__law_due : Fn := defn 3 3 m__law_due

abbrev m__law_cell : ST := Lib.m__law_cell
abbrev f__law_cell : Fn := Lib.f__law_cell

def m__law_number_2 : ST := (sRet (eVar 4))
def m__law_number_1 : ST := (sSeq (sIf (bVal (e2 vEq (eVar 3) (eC (.int 1)))) (sRet (e2 vSub (e2 vSub (eVar 1) (eC (.int 1))) (eVar 4))) sNext)
    m__law_number_2)
def m__law_number : ST := (sSeq (sSet 4 (e2 vMod (eArgs vInt (aCons (e2 vAdd (eVar 0) (eVar 2)) aNil)) (eVar 1)))
    m__law_number_1)
def f__law_number : Fn := defn 4 5 m__law_number

def m__law_chain_state_2 : ST := (sRet (eC (.str "on")))
def m__law_chain_state_1 : ST := (sSeq (sIf (bVal (e2 vIn (eC (.str "undecided")) (eVar 0))) (sRet (eC (.str "undecided"))) sNext)
    m__law_chain_state_2)
def m__law_chain_state : ST := (sSeq (sIf (bVal (e2 vIn (eC (.str "off")) (eVar 0))) (sRet (eC (.str "off"))) sNext)
    m__law_chain_state_1)
def f__law_chain_state : Fn := defn 1 1 m__law_chain_state

def m__law_star_state_2 : ST := (sRet (eC (.str "off")))
def m__law_star_state_1 : ST := (sSeq (sIf (bVal (e2 vIn (eC (.str "undecided")) (eVar 0))) (sRet (eC (.str "undecided"))) sNext)
    m__law_star_state_2)
def m__law_star_state : ST := (sSeq (sIf (bVal (e2 vIn (eC (.str "on")) (eVar 0))) (sRet (eC (.str "on"))) sNext)
    m__law_star_state_1)
def f__law_star_state : Fn := defn 1 1 m__law_star_state

abbrev m__law_is_integer : ST := Lib.m__law_is_integer
abbrev f__law_is_integer : Fn := Lib.f__law_is_integer

def m__law_state_2 : ST := (sRet (eC (.str "off")))
def m__law_state_1 : ST := (sSeq (sIf (bVal (e2 vEq (e2 vEq (eVar 0) (eC (.str "n"))) (e2 vEq (eVar 1) (eC (.int 1))))) (sRet (eC (.str "on"))) sNext)
    m__law_state_2)
def m__law_state : ST := (sSeq (sIf (bVal (e2 vGt (eVar 1) (eC (.int 1)))) (sRet (eC (.str "undecided"))) sNext)
    m__law_state_1)
def f__law_state : Fn := defn 2 2 m__law_state

def m_law_aa_1 : ST := (sIf (bOr (bNot (bTruth (e1 (vIsi .str) (eVar 17)))) (bVal (e2 vNe (eVar 17) (eCall f__law_state (aCons (eVar 1) (aCons (eVar 15) aNil)))))) (sRet (eC (.bl false))) sNext)
def m_law_aa_L : ST := (sSeq (sSet 17 (eCall f_switch_state (aCons (eVar 1) (aCons (eVar 15) aNil))))
    m_law_aa_1)
def m_law_aa_F : ST := (sFor (iRange1 (eC (.int 4))) (pName 15) m_law_aa_L)
def m_law_a_F : ST := (sFor (iSeq (eArgs vLst (aCons (eC (.str "n")) (aCons (eC (.str "p")) aNil)))) (pName 1) m_law_aa_F)
def e_law_1 : EX := (eComp (iRange1 (eVar 6)) [18] (pName 18) bYes (eCall f__law_number (aCons (eVar 18) (aCons (eVar 6) (aCons (e2 vIx (eVar 2) (eC (.int 3))) (aCons (e2 vIx (eVar 2) (eC (.int 4))) aNil))))))
def m_law_ka_8 : ST := (sAppend 9 (eArgs vTup (aCons (e2 vIx (eVar 4) (eVar 11)) (aCons (eVar 20) (aCons (e2 vIx (eVar 21) (eC (.int 0))) (aCons (e2 vIx (eVar 21) (eC (.int 1))) aNil))))))
def m_law_ka_7 : ST := (sSeq (sFreeze 21) m_law_ka_8)
def m_law_ka_6 : ST := (sSeq (sIf (bVal (e2 vEq (e2 vIx (eVar 19) (eC (.int 1))) (eC (.int 1)))) (sReverse 21) sNext)
    m_law_ka_7)
def m_law_ka_5 : ST := (sSeq (sIf (bVal (e2 vEq (eVar 11) (eC (.int 1)))) (sOn 21 (sItem 21 (eC (.int 1)) (e2 vIx (eVar 7) (e2 vSub (eC (.int 1)) (eVar 3))))) (sIf (bVal (e2 vGt (e2 vIx (eVar 5) (eC (.int 0))) (eC (.int 1)))) (sOwn 21 (eArgs vLst (aCons (e2 vIx (eVar 7) (e2 vIx (eArgs vLst (aCons (eC (.int 2)) (aCons (e2 vAdd (eC (.int 2)) (eVar 16)) aNil))) (eArgs vInt (aCons (e2 vGt (eVar 16) (eC (.int 0))) aNil)))) (aCons (e2 vIx (eVar 7) (e2 vIx (eArgs vLst (aCons (e2 vAdd (eC (.int 3)) (eVar 16)) (aCons (eVar 3) aNil))) (eArgs vInt (aCons (e2 vEq (eVar 16) (e2 vSub (e2 vIx (eVar 5) (eC (.int 0))) (eC (.int 1)))) aNil)))) aNil)))) sNext))
    m_law_ka_6)
def m_law_ka_4 : ST := (sSeq (sOwn 21 (eArgs vLst (aCons (e2 vIx (eVar 7) (eC (.int 2))) (aCons (e2 vIx (eVar 7) (eArgs vInt (aCons (eVar 3) aNil))) aNil))))
    m_law_ka_5)
def m_law_ka_3 : ST := (sSeq (sAtAppN (.ix (.s 10) (eVar 11)) (eCall f__law_state (aCons (e2 vIx (eVar 4) (eVar 11)) (aCons (e2 vIx (eVar 8) (eVar 20)) aNil))))
    m_law_ka_4)
def m_law_ka_2 : ST := (sSeq (sOnD 8 (sPutD 8 (eVar 20) (e2 vIx (eArgs vLst (aCons (eC (.int 0)) (aCons (eC (.int 1)) (aCons (eC (.int 3)) aNil)))) (e2 vIx (eVar 19) (eC (.int 0))))))
    m_law_ka_3)
def m_law_ka_1 : ST := (sSeq (sSet 20 (e2 vIx (eVar 7) (e2 vAdd (e2 vAdd (eC (.int 3)) (e2 vMul (e2 vIx (eVar 5) (eC (.int 0))) (e2 vAdd (eC (.int 1)) (eVar 11)))) (eVar 16))))
    m_law_ka_2)
def m_law_ka_L : ST := (sSeq (sSet 19 (eCall f__law_parts (aCons (eCall f__law_cell (aCons (eVar 0) (aCons (e2 vAdd (e2 vAdd (eC (.int 1)) (e2 vMul (eC (.int 5)) (eVar 11))) (eVar 16)) aNil))) (aCons (eArgs vLst (aCons (eC (.int 3)) (aCons (eC (.int 2)) aNil))) aNil))))
    m_law_ka_1)
def m_law_ka_F : ST := (sFor (iRange1 (e2 vIx (eVar 5) (eVar 11))) (pName 16) m_law_ka_L)
def m_law_k_F : ST := (sFor (iRange1 (eC (.int 2))) (pName 11) m_law_ka_F)
def m_law_o_L : ST := (sIf (bOr (bNot (bTruth (eCall f__law_is_integer (aCons (e2 vIx (eVar 12) (eVar 13)) aNil)))) (bVal (e2 vNe (e2 vIx (eVar 12) (eVar 13)) (e2 vIx (eVar 8) (eVar 13))))) (sRet (eC (.bl false))) sNext)
def m_law_o_F : ST := (sLockS 8 (sFor (itK 8) (pName 13) m_law_o_L))
def m_law_19 : ST := (sRet (eAnd (eCall f__law_is_integer (aCons (e2 vIx (eVar 12) (e2 vIx (eVar 7) (eC (.int 2)))) aNil)) (e2 vEq (e2 vIx (eVar 12) (e2 vIx (eVar 7) (eC (.int 2)))) (eVar 14))))
def m_law_18 : ST := (sSeq (sSet 14 (eCall f__law_due (aCons (eCall f__law_chain_state (aCons (e2 vIx (eVar 10) (eC (.int 0))) aNil)) (aCons (eCall f__law_star_state (aCons (e2 vIx (eVar 10) (eC (.int 1))) aNil)) (aCons (eVar 3) aNil)))))
    m_law_19)
def m_law_17 : ST := (sSeq m_law_o_F
    m_law_18)
def m_law_16 : ST := (sSeq (sIf (bOr (bNot (bTruth (e1 (vIsi .list) (eVar 12)))) (bVal (e2 vNe (eArgs vLen (aCons (eVar 12) aNil)) (eVar 6)))) (sRet (eC (.bl false))) sNext)
    m_law_17)
def m_law_15 : ST := (sSeq (sSet 12 (eCall f_settle (aCons (eVar 6) (aCons (eVar 9) (aCons (eVar 8) aNil)))))
    m_law_16)
def m_law_14 : ST := (sSeq (sFreeze 9) m_law_15)
def m_law_13 : ST := (sSeq (sIf (bVal (e2 vEq (e2 vIx (eVar 2) (eC (.int 5))) (eC (.int 1)))) (sReverse 9) sNext)
    m_law_14)
def m_law_12 : ST := (sSeq (sFreezeT 10) m_law_13)
def m_law_11 : ST := (sSeq (sFreezeD 8) m_law_12)
def m_law_10 : ST := (sSeq m_law_k_F
    m_law_11)
def m_law_9 : ST := (sSeq (sOwnT 10 (tLstT [tNilT, tNilT]))
    m_law_10)
def m_law_8 : ST := (sSeq (sOwn 9 (eArgs vLst aNil))
    m_law_9)
def m_law_7 : ST := (sSeq (sOwnD 8 (eDictV [((e2 vIx (eVar 7) (eVar 3)), (eVar 3)), ((e2 vIx (eVar 7) (e2 vSub (eC (.int 1)) (eVar 3))), (e2 vSub (eC (.int 1)) (eVar 3)))]))
    m_law_8)
def m_law_6 : ST := (sSeq (sSet 7 e_law_1)
    m_law_7)
def m_law_5 : ST := (sSeq (sSet 6 (e2 vAdd (e2 vAdd (eC (.int 3)) (e2 vMul (eC (.int 2)) (e2 vIx (eVar 5) (eC (.int 0))))) (e2 vIx (eVar 5) (eC (.int 1)))))
    m_law_6)
def m_law_4 : ST := (sSeq (sSet 5 (eArgs vLst (aCons (e2 vAdd (eC (.int 1)) (e2 vIx (eVar 2) (eC (.int 1)))) (aCons (e2 vIx (eVar 2) (eC (.int 2))) aNil))))
    m_law_5)
def m_law_3 : ST := (sSeq (sSet 4 (eArgs vLst (aCons (e2 vIx (eArgs vLst (aCons (eC (.str "n")) (aCons (eC (.str "p")) aNil))) (eVar 3)) (aCons (e2 vIx (eArgs vLst (aCons (eC (.str "p")) (aCons (eC (.str "n")) aNil))) (eVar 3)) aNil))))
    m_law_4)
def m_law_2 : ST := (sSeq (sSet 3 (e2 vIx (eVar 2) (eC (.int 0))))
    m_law_3)
def m_law_1 : ST := (sSeq (sSet 2 (eCall f__law_parts (aCons (eCall f__law_cell (aCons (eVar 0) (aCons (eC (.int 0)) aNil))) (aCons (eArgs vLst (aCons (eC (.int 2)) (aCons (eC (.int 5)) (aCons (eC (.int 6)) (aCons (eC (.int 20)) (aCons (eC (.int 2)) (aCons (eC (.int 2)) aNil))))))) aNil))))
    m_law_2)
def m_law : ST := (sSeq m_law_a_F
    m_law_1)
def f_law : Fn := defn 1 22 m_law
end K55
end Vm
end

namespace Vm
namespace K55
open PySem L2 PyProof.Rows
abbrev T (i : Nat) : Stmt := PySem.Challenge.pw_gatesread_k55_star_against_chain.main.body.getD i (.Pass ⟨0, 0, 0, 0⟩)
structure Glb (w : World) (K : PySem.W.Frag) (mg : Str → Option Value) : Prop where
  u_range : mg "range" = none
  u_len : mg "len" = none
  u_int : mg "int" = none
  u_list : mg "list" = none
  u_enumerate : mg "enumerate" = none
  u_isinstance : mg "isinstance" = none
  u_bool : mg "bool" = none
  u_str : mg "str" = none
  g_UNKNOWN : ∃ t, mg "UNKNOWN" = some (.int 3 t)
  g_OPEN : ∃ t, mg "OPEN" = some (.int 2 t)
  x_NoSuchThing : XC K mg "NoSuchThing"
  a__law_parts : mg "_law_parts" = some (.ref (He.ga K "_law_parts"))
  D__law_parts : ∃ fd, L2.FunD K "_law_parts" "_law_parts" (defArgs (T 15)) (defBody (T 15)) (defScope (T 15)) [] [] (He.ga K "_law_parts") fd
  a_check_nodes : mg "check_nodes" = some (.ref (He.ga K "check_nodes"))
  D_check_nodes : ∃ fd, L2.FunD K "check_nodes" "check_nodes" (defArgs (T 7)) (defBody (T 7)) (defScope (T 7)) [] [] (He.ga K "check_nodes") fd
  a_switch_state : mg "switch_state" = some (.ref (He.ga K "switch_state"))
  D_switch_state : ∃ fd, L2.FunD K "switch_state" "switch_state" (defArgs (T 6)) (defBody (T 6)) (defScope (T 6)) [] [] (He.ga K "switch_state") fd
  a_neighbours_over : mg "neighbours_over" = some (.ref (He.ga K "neighbours_over"))
  D_neighbours_over : ∃ fd, L2.FunD K "neighbours_over" "neighbours_over" (defArgs (T 8)) (defBody (T 8)) (defScope (T 8)) [] [] (He.ga K "neighbours_over") fd
  a_reached : mg "reached" = some (.ref (He.ga K "reached"))
  D_reached : ∃ fd, L2.FunD K "reached" "reached" (defArgs (T 9)) (defBody (T 9)) (defScope (T 9)) [] [] (He.ga K "reached") fd
  a_level_of : mg "level_of" = some (.ref (He.ga K "level_of"))
  D_level_of : ∃ fd, L2.FunD K "level_of" "level_of" (defArgs (T 10)) (defBody (T 10)) (defScope (T 10)) [] [] (He.ga K "level_of") fd
  a_next_levels : mg "next_levels" = some (.ref (He.ga K "next_levels"))
  D_next_levels : ∃ fd, L2.FunD K "next_levels" "next_levels" (defArgs (T 11)) (defBody (T 11)) (defScope (T 11)) [] [] (He.ga K "next_levels") fd
  a_settle : mg "settle" = some (.ref (He.ga K "settle"))
  D_settle : ∃ fd, L2.FunD K "settle" "settle" (defArgs (T 12)) (defBody (T 12)) (defScope (T 12)) [] [] (He.ga K "settle") fd
  a__law_due : mg "_law_due" = some (.ref (He.ga K "_law_due"))
  D__law_due : ∃ fd, L2.FunD K "_law_due" "_law_due" (defArgs (T 20)) (defBody (T 20)) (defScope (T 20)) [] [] (He.ga K "_law_due") fd
  a__law_cell : mg "_law_cell" = some (.ref (He.ga K "_law_cell"))
  D__law_cell : ∃ fd, L2.FunD K "_law_cell" "_law_cell" (defArgs (T 14)) (defBody (T 14)) (defScope (T 14)) [] [] (He.ga K "_law_cell") fd
  a__law_number : mg "_law_number" = some (.ref (He.ga K "_law_number"))
  D__law_number : ∃ fd, L2.FunD K "_law_number" "_law_number" (defArgs (T 21)) (defBody (T 21)) (defScope (T 21)) [] [] (He.ga K "_law_number") fd
  a__law_chain_state : mg "_law_chain_state" = some (.ref (He.ga K "_law_chain_state"))
  D__law_chain_state : ∃ fd, L2.FunD K "_law_chain_state" "_law_chain_state" (defArgs (T 18)) (defBody (T 18)) (defScope (T 18)) [] [] (He.ga K "_law_chain_state") fd
  a__law_star_state : mg "_law_star_state" = some (.ref (He.ga K "_law_star_state"))
  D__law_star_state : ∃ fd, L2.FunD K "_law_star_state" "_law_star_state" (defArgs (T 19)) (defBody (T 19)) (defScope (T 19)) [] [] (He.ga K "_law_star_state") fd
  a__law_is_integer : mg "_law_is_integer" = some (.ref (He.ga K "_law_is_integer"))
  D__law_is_integer : ∃ fd, L2.FunD K "_law_is_integer" "_law_is_integer" (defArgs (T 16)) (defBody (T 16)) (defScope (T 16)) [] [] (He.ga K "_law_is_integer") fd
  a__law_state : mg "_law_state" = some (.ref (He.ga K "_law_state"))
  D__law_state : ∃ fd, L2.FunD K "_law_state" "_law_state" (defArgs (T 17)) (defBody (T 17)) (defScope (T 17)) [] [] (He.ga K "_law_state") fd
  a_law : mg "law" = some (.ref (He.ga K "law"))
  D_law : ∃ fd, L2.FunD K "law" "law" (defArgs (T 22)) (defBody (T 22)) (defScope (T 22)) [] [] (He.ga K "law") fd
section
variable {P : Program} {w : World} {K : PySem.W.Frag} {mg : Str → Option Value} {base : Heap}

def N__law_parts : List Str := ["_law_cell_here", "_law_sizes", "_law_parts_here", "_law_rest", "_law_k", "_law_mixed"]
theorem s__law_parts : FnScope N__law_parts ["_law_cell_here", "_law_sizes"] (defScope (T 15)) := ⟨rfl, rfl, rfl, by decide +kernel, rfl, by decide +kernel, by decide +kernel⟩
set_option maxHeartbeats 0 in
theorem b__law_parts (G : Glb w K mg) : Body P w K mg base (xr K) 0 N__law_parts "_law_parts" (defScope (T 15)) (defBody (T 15)) m__law_parts := by
  intro f cd A outer s H E W X tk F hr
  have nd : X.N.Nodup := s__law_parts.nd
  exact ⟨_, (ss_cons (ss_own 2 (sf_lst sa_nil))
    (ss_cons (ss_set 3 (se_sub (se_var 0) (se_pow se_int se_int)))
    (ss_cons (ss_for F (si_rng1 G.u_range (se_len G.u_len (sa_cons (se_var 1) sa_nil))) (sg_name 4) (ss_one (ss_if (sb_cmp c_ge (se_var 3) se_int) (ss_cons (ss_app 2 (se_mod (se_intOf G.u_int (sa_cons (se_var 3) sa_nil)) (se_ix F (se_var 1) (se_var 4))))
    (ss_one (ss_set 3 (se_div (se_var 3) (se_ix F (se_var 1) (se_var 4)))))) (ss_cons (ss_set 5 (se_mod (se_intOf G.u_int (sa_cons (se_add (se_add (se_mul (se_var 0) se_int) (se_mul (se_var 4) se_int)) se_int) sa_nil)) se_int))
    (ss_cons (ss_set 5 (se_mod (se_intOf G.u_int (sa_cons (se_add (se_add (se_mul (se_var 5) (se_var 5)) (se_mul se_int (se_var 4))) se_int) sa_nil)) se_int))
    (ss_one (ss_app 2 (se_mod (se_intOf G.u_int (sa_cons (se_var 5) sa_nil)) (se_ix F (se_var 1) (se_var 4))))))))))
    (ss_freeze 2 (ss_one (ss_ret (se_var 2)))))))⟩
theorem c__law_parts (G : Glb w K mg) : Cal P w K mg base (xr K) "_law_parts" 1 2 f__law_parts := by
  obtain ⟨fd, F⟩ := G.D__law_parts
  exact cal_of F G.a__law_parts s__law_parts (fun _ _ _ _ _ _ us hl => match us, hl with | [_, _], _ => rfl) rfl rfl (b__law_parts G)

def N_check_nodes : List Str := ["node_count", "transistors", "fixed", "nodes", "node", "_", "gate", "left", "right"]
theorem s_check_nodes : FnScope N_check_nodes ["node_count", "transistors", "fixed"] (defScope (T 7)) := ⟨rfl, rfl, rfl, by decide +kernel, rfl, by decide +kernel, by decide +kernel⟩
set_option maxHeartbeats 0 in
theorem b_check_nodes (G : Glb w K mg) : Body P w K mg base (xr K) 0 N_check_nodes "check_nodes" (defScope (T 7)) (defBody (T 7)) m_check_nodes := by
  intro f cd A outer s H E W X tk F hr
  have nd : X.N.Nodup := s_check_nodes.nd
  exact ⟨_, (ss_cons (ss_own 3 (sf_listOfD F G.u_list (sa_cons (se_var 2) sa_nil)))
    (ss_cons (ss_for F (si_seq (se_var 1)) (sg_tup F (sgs_cons (sg_name 5) (sgs_cons (sg_name 6) (sgs_cons (sg_name 7) (sgs_cons (sg_name 8) sgs_nil))))) (ss_one (ss_extend 3 (se_lst (sa_cons (se_var 6) (sa_cons (se_var 7) (sa_cons (se_var 8) sa_nil)))))))
    (ss_freeze 3 (ss_one (ss_for F (si_seq (se_var 3)) (sg_name 4) (ss_one (ss_if (sb_not (sb_chain c_le c_lt se_int (se_var 4) (se_var 0))) (ss_one (ss_raise tk F.ca G.x_NoSuchThing)) ss_nil)))))))⟩
theorem c_check_nodes (G : Glb w K mg) : Cal P w K mg base (xr K) "check_nodes" 1 3 f_check_nodes := by
  obtain ⟨fd, F⟩ := G.D_check_nodes
  exact cal_of F G.a_check_nodes s_check_nodes (fun _ _ _ _ _ _ us hl => match us, hl with | [_, _, _], _ => rfl) rfl rfl (b_check_nodes G)

def N_switch_state : List Str := ["kind", "level"]
theorem s_switch_state : FnScope N_switch_state ["kind", "level"] (defScope (T 6)) := ⟨rfl, rfl, rfl, by decide +kernel, rfl, by decide +kernel, by decide +kernel⟩
set_option maxHeartbeats 0 in
theorem b_switch_state (G : Glb w K mg) : Body P w K mg base (xr K) 0 N_switch_state "switch_state" (defScope (T 6)) (defBody (T 6)) m_switch_state := by
  intro f cd A outer s H E W X tk F hr
  have nd : X.N.Nodup := s_switch_state.nd
  exact ⟨_, (ss_cons (ss_if (sb_w (sw_and (sb_cmp (c_ne F) (se_var 1) se_int) (sw_and1 (sb_cmp (c_ne F) (se_var 1) se_int)))) (ss_one (ss_ret se_str)) ss_nil)
    (ss_one (ss_ret (se_if (sb_cmp (c_eq F) (se_cmp (c_eq F) (se_var 0) se_str) (se_cmp (c_eq F) (se_var 1) se_int)) se_str se_str))))⟩
theorem c_switch_state (G : Glb w K mg) : Cal P w K mg base (xr K) "switch_state" 1 2 f_switch_state := by
  obtain ⟨fd, F⟩ := G.D_switch_state
  exact cal_of F G.a_switch_state s_switch_state (fun _ _ _ _ _ _ us hl => match us, hl with | [_, _], _ => rfl) rfl rfl (b_switch_state G)

def N_neighbours_over : List Str := ["transistors", "levels", "states", "neighbours", "kind", "gate", "left", "right"]
theorem s_neighbours_over : FnScope N_neighbours_over ["transistors", "levels", "states"] (defScope (T 8)) := ⟨rfl, rfl, rfl, by decide +kernel, rfl, by decide +kernel, by decide +kernel⟩
set_option maxHeartbeats 0 in
theorem b_neighbours_over (G : Glb w K mg) : Body P w K mg base (xr K) 1 N_neighbours_over "neighbours_over" (defScope (T 8)) (defBody (T 8)) m_neighbours_over := by
  intro f cd A outer s H E W X tk F hr
  have nd : X.N.Nodup := s_neighbours_over.nd
  exact ⟨_, (ss_cons (ss_ownT 3 str_dict0)
    (ss_cons (ss_for F (si_seq (se_var 0)) (sg_tup F (sgs_cons (sg_name 4) (sgs_cons (sg_name 5) (sgs_cons (sg_name 6) (sgs_cons (sg_name 7) sgs_nil))))) (ss_one (ss_if (sb_cmp (c_in F) (se_call (c_switch_state G) hr F.le (sa_cons (se_var 4) (sa_cons (se_ix F (se_var 1) (se_var 5)) sa_nil))) (se_var 2)) (ss_cons (ss_atSetd (spl_s 3) (se_var 6) (se_var 7))
    (ss_one (ss_atSetd (spl_s 3) (se_var 7) (se_var 6)))) ss_nil)))
    (ss_freezeT 3 (ss_one (ss_ret (se_var 3))))))⟩
theorem c_neighbours_over (G : Glb w K mg) : Cal P w K mg base (xr K) "neighbours_over" 2 3 f_neighbours_over := by
  obtain ⟨fd, F⟩ := G.D_neighbours_over
  exact cal_of F G.a_neighbours_over s_neighbours_over (fun _ _ _ _ _ _ us hl => match us, hl with | [_, _, _], _ => rfl) rfl rfl (b_neighbours_over G)

def N_reached : List Str := ["neighbours", "fixed", "sources", "found", "waiting", "node", "other"]
theorem s_reached : FnScope N_reached ["neighbours", "fixed", "sources"] (defScope (T 9)) := ⟨rfl, rfl, rfl, by decide +kernel, rfl, by decide +kernel, by decide +kernel⟩
set_option maxHeartbeats 0 in
theorem b_reached (G : Glb w K mg) : Body P w K mg base (xr K) 0 N_reached "reached" (defScope (T 9)) (defBody (T 9)) m_reached := by
  intro f cd A outer s H E W X tk F hr
  have nd : X.N.Nodup := s_reached.nd
  exact ⟨_, (ss_cons (ss_ownD0 3)
    (ss_cons (ss_ownLcS 4 1 (own := [("node", 5)]) (te := (tVar 5)) (tt := (tTest (tOp (rInW K) (tOp (rIxV K) (tVar 1) (tVar 5)) (tVar 2)))) (g := (gName 5)) F (fun s H Cc cl fp => (sg_name 5)) (fun s H Cc cl fp => (st_one (sb_cmp (c_in (F.blk _ _ _ _ _)) (se_ix (F.blk _ _ _ _ _) (se_var 1) (se_var 5)) (se_var 2)))) (fun s H Cc cl fp => (se_var 5)))
    (ss_cons (ss_while 100000 F (sb_tru (se_var 4)) (ss_cons (ss_popTo 4 5)
    (ss_one (ss_for F (si_seq (se_get2 F (se_var 0) (se_var 5) (se_lst sa_nil))) (sg_name 6) (ss_one (ss_if (sb_w (sw_and (sb_cmp (c_ni F) (se_var 6) (se_var 1)) (sw_and1 (sb_cmp (c_ni F) (se_var 6) (se_var 3))))) (ss_cons (ss_putD 3 F se_bl (se_var 6))
    (ss_one (ss_app 4 (se_var 6)))) ss_nil))))))
    (ss_freezeD 3 (ss_one (ss_ret (se_var 3)))))))⟩
theorem c_reached (G : Glb w K mg) : Cal P w K mg base (xr K) "reached" 1 3 f_reached := by
  obtain ⟨fd, F⟩ := G.D_reached
  exact cal_of F G.a_reached s_reached (fun _ _ _ _ _ _ us hl => match us, hl with | [_, _, _], _ => rfl) rfl rfl (b_reached G)

def N_level_of : List Str := ["surely_zero", "surely_one", "maybe_zero", "maybe_one"]
theorem s_level_of : FnScope N_level_of ["surely_zero", "surely_one", "maybe_zero", "maybe_one"] (defScope (T 10)) := ⟨rfl, rfl, rfl, by decide +kernel, rfl, by decide +kernel, by decide +kernel⟩
set_option maxHeartbeats 0 in
theorem b_level_of (G : Glb w K mg) : Body P w K mg base (xr K) 0 N_level_of "level_of" (defScope (T 10)) (defBody (T 10)) m_level_of := by
  intro f cd A outer s H E W X tk F hr
  have nd : X.N.Nodup := s_level_of.nd
  exact ⟨_, (ss_cons (ss_if (sb_w (sw_and (sb_tru (se_var 0)) (sw_and1 (sb_not (sb_tru (se_var 3)))))) (ss_one (ss_ret se_int)) ss_nil)
    (ss_cons (ss_if (sb_w (sw_and (sb_tru (se_var 1)) (sw_and1 (sb_not (sb_tru (se_var 2)))))) (ss_one (ss_ret se_int)) ss_nil)
    (ss_cons (ss_if (sb_w (sw_or (sb_tru (se_var 2)) (sw_or1 (sb_tru (se_var 3))))) (ss_one (ss_ret (se_gi G.g_UNKNOWN))) ss_nil)
    (ss_one (ss_ret (se_gi G.g_OPEN))))))⟩
theorem c_level_of (G : Glb w K mg) : Cal P w K mg base (xr K) "level_of" 1 4 f_level_of := by
  obtain ⟨fd, F⟩ := G.D_level_of
  exact cal_of F G.a_level_of s_level_of (fun _ _ _ _ _ _ us hl => match us, hl with | [_, _, _, _], _ => rfl) rfl rfl (b_level_of G)

def N_next_levels : List Str := ["transistors", "fixed", "levels", "sure", "maybe", "surely_zero", "surely_one", "maybe_zero", "maybe_one", "following", "node", "level"]
theorem s_next_levels : FnScope N_next_levels ["transistors", "fixed", "levels"] (defScope (T 11)) := ⟨rfl, rfl, rfl, by decide +kernel, rfl, by decide +kernel, by decide +kernel⟩
set_option maxHeartbeats 0 in
theorem b_next_levels (G : Glb w K mg) : Body P w K mg base (xr K) 2 N_next_levels "next_levels" (defScope (T 11)) (defBody (T 11)) m_next_levels := by
  intro f cd A outer s H E W X tk F hr
  have nd : X.N.Nodup := s_next_levels.nd
  exact ⟨_, (ss_cons (ss_set 3 (se_call (c_neighbours_over G) hr F.le (sa_cons (se_var 0) (sa_cons (se_var 2) (sa_cons (se_tup (sa_cons se_str sa_nil)) sa_nil)))))
    (ss_cons (ss_set 4 (se_call (c_neighbours_over G) hr F.le (sa_cons (se_var 0) (sa_cons (se_var 2) (sa_cons (se_tup (sa_cons se_str (sa_cons se_str sa_nil))) sa_nil)))))
    (ss_cons (ss_set 5 (se_call (c_reached G) (hr.mono (by decide)) F.le (sa_cons (se_var 3) (sa_cons (se_var 1) (sa_cons (se_tup (sa_cons se_int sa_nil)) sa_nil)))))
    (ss_cons (ss_set 6 (se_call (c_reached G) (hr.mono (by decide)) F.le (sa_cons (se_var 3) (sa_cons (se_var 1) (sa_cons (se_tup (sa_cons se_int sa_nil)) sa_nil)))))
    (ss_cons (ss_set 7 (se_call (c_reached G) (hr.mono (by decide)) F.le (sa_cons (se_var 4) (sa_cons (se_var 1) (sa_cons (se_tup (sa_cons se_int (sa_cons (se_gi G.g_UNKNOWN) sa_nil))) sa_nil)))))
    (ss_cons (ss_set 8 (se_call (c_reached G) (hr.mono (by decide)) F.le (sa_cons (se_var 4) (sa_cons (se_var 1) (sa_cons (se_tup (sa_cons se_int (sa_cons (se_gi G.g_UNKNOWN) sa_nil))) sa_nil)))))
    (ss_cons (ss_own 9 (sf_lst sa_nil))
    (ss_cons (ss_for F (si_enum G.u_enumerate (se_var 2)) (sg_tup F (sgs_cons (sg_name 10) (sgs_cons (sg_name 11) sgs_nil))) (ss_one (ss_if (sb_cmp (c_in F) (se_var 10) (se_var 1)) (ss_one (ss_app 9 (se_var 11))) (ss_one (ss_app 9 (se_call (c_level_of G) (hr.mono (by decide)) F.le (sa_cons (se_cmp (c_in F) (se_var 10) (se_var 5)) (sa_cons (se_cmp (c_in F) (se_var 10) (se_var 6)) (sa_cons (se_cmp (c_in F) (se_var 10) (se_var 7)) (sa_cons (se_cmp (c_in F) (se_var 10) (se_var 8)) sa_nil))))))))))
    (ss_freeze 9 (ss_one (ss_ret (se_var 9))))))))))))⟩
theorem c_next_levels (G : Glb w K mg) : Cal P w K mg base (xr K) "next_levels" 3 3 f_next_levels := by
  obtain ⟨fd, F⟩ := G.D_next_levels
  exact cal_of F G.a_next_levels s_next_levels (fun _ _ _ _ _ _ us hl => match us, hl with | [_, _, _], _ => rfl) rfl rfl (b_next_levels G)

def N_settle : List Str := ["node_count", "transistors", "fixed", "levels", "following", "node"]
theorem s_settle : FnScope N_settle ["node_count", "transistors", "fixed"] (defScope (T 12)) := ⟨rfl, rfl, rfl, by decide +kernel, rfl, by decide +kernel, by decide +kernel⟩
set_option maxHeartbeats 0 in
theorem b_settle (G : Glb w K mg) : Body P w K mg base (xr K) 3 N_settle "settle" (defScope (T 12)) (defBody (T 12)) m_settle := by
  intro f cd A outer s H E W X tk F hr
  have nd : X.N.Nodup := s_settle.nd
  exact ⟨_, (ss_cons (ss_expr (se_call (c_check_nodes G) (hr.mono (by decide)) F.le (sa_cons (se_var 0) (sa_cons (se_var 1) (sa_cons (se_var 2) sa_nil)))))
    (ss_cons (ss_setLc 3 (sfc_comp (own := [("node", 5)]) (te := (tDGet2 (tVar 2) (tVar 5) (tC (.int 3)))) (tt := tYes) (g := (gName 5)) F (si_rng1 G.u_range (se_var 0)) (fun s H Cc cl fp => (sg_name 5)) (fun s H Cc cl fp => st_nil) (fun s H Cc cl fp => (se_get2 (F.blk _ _ _ _ _) (se_var 2) (se_var 5) (se_gi G.g_UNKNOWN)))))
    (ss_cons (ss_set 4 (se_call (c_next_levels G) hr F.le (sa_cons (se_var 1) (sa_cons (se_var 2) (sa_cons (se_var 3) sa_nil)))))
    (ss_cons (ss_while 100000 F (sb_cmp (c_ne F) (se_var 4) (se_var 3)) (ss_cons (ss_set 3 (se_var 4))
    (ss_one (ss_set 4 (se_call (c_next_levels G) hr F.le (sa_cons (se_var 1) (sa_cons (se_var 2) (sa_cons (se_var 3) sa_nil))))))))
    (ss_one (ss_ret (se_var 3)))))))⟩
theorem c_settle (G : Glb w K mg) : Cal P w K mg base (xr K) "settle" 4 3 f_settle := by
  obtain ⟨fd, F⟩ := G.D_settle
  exact cal_of F G.a_settle s_settle (fun _ _ _ _ _ _ us hl => match us, hl with | [_, _, _], _ => rfl) rfl rfl (b_settle G)

def N__law_due : List Str := ["_law_chain", "_law_star", "_law_rail"]
theorem s__law_due : FnScope N__law_due ["_law_chain", "_law_star", "_law_rail"] (defScope (T 20)) := ⟨rfl, rfl, rfl, by decide +kernel, rfl, by decide +kernel, by decide +kernel⟩
set_option maxHeartbeats 0 in
theorem b__law_due (G : Glb w K mg) : Body P w K mg base (xr K) 0 N__law_due "_law_due" (defScope (T 20)) (defBody (T 20)) m__law_due := by
  intro f cd A outer s H E W X tk F hr
  have nd : X.N.Nodup := s__law_due.nd
  exact ⟨_, (ss_cons (ss_if (sb_w (sw_and (sb_cmp (c_eq F) (se_var 0) se_str) (sw_and1 (sb_cmp (c_eq F) (se_var 1) se_str)))) (ss_one (ss_ret (se_var 2))) ss_nil)
    (ss_cons (ss_if (sb_w (sw_and (sb_cmp (c_eq F) (se_var 1) se_str) (sw_and1 (sb_cmp (c_eq F) (se_var 0) se_str)))) (ss_one (ss_ret (se_sub se_int (se_var 2)))) ss_nil)
    (ss_cons (ss_if (sb_w (sw_and (sb_cmp (c_eq F) (se_var 0) se_str) (sw_and1 (sb_cmp (c_eq F) (se_var 1) se_str)))) (ss_one (ss_ret se_int)) ss_nil)
    (ss_one (ss_ret se_int)))))⟩
theorem c__law_due (G : Glb w K mg) : Cal P w K mg base (xr K) "_law_due" 1 3 f__law_due := by
  obtain ⟨fd, F⟩ := G.D__law_due
  exact cal_of F G.a__law_due s__law_due (fun _ _ _ _ _ _ us hl => match us, hl with | [_, _, _], _ => rfl) rfl rfl (b__law_due G)

def N__law_cell : List Str := ["_law_script", "_law_k"]
theorem s__law_cell : FnScope N__law_cell ["_law_script", "_law_k"] (defScope (T 14)) := ⟨rfl, rfl, rfl, by decide +kernel, rfl, by decide +kernel, by decide +kernel⟩
set_option maxHeartbeats 0 in
theorem b__law_cell (G : Glb w K mg) : Body P w K mg base (xr K) 0 N__law_cell "_law_cell" (defScope (T 14)) (defBody (T 14)) m__law_cell := by
  intro f cd A outer s H E W X tk F hr
  have nd : X.N.Nodup := s__law_cell.nd
  exact ⟨_, (ss_cons (ss_if (sb_cmp c_lt (se_var 1) (se_len G.u_len (sa_cons (se_var 0) sa_nil))) (ss_one (ss_ret (se_ix F (se_var 0) (se_var 1)))) ss_nil)
    (ss_one (ss_ret se_int)))⟩
theorem c__law_cell (G : Glb w K mg) : Cal P w K mg base (xr K) "_law_cell" 1 2 f__law_cell := by
  obtain ⟨fd, F⟩ := G.D__law_cell
  exact cal_of F G.a__law_cell s__law_cell (fun _ _ _ _ _ _ us hl => match us, hl with | [_, _], _ => rfl) rfl rfl (b__law_cell G)

def N__law_number : List Str := ["_law_place", "_law_count", "_law_turn", "_law_down", "_law_number_here"]
theorem s__law_number : FnScope N__law_number ["_law_place", "_law_count", "_law_turn", "_law_down"] (defScope (T 21)) := ⟨rfl, rfl, rfl, by decide +kernel, rfl, by decide +kernel, by decide +kernel⟩
set_option maxHeartbeats 0 in
theorem b__law_number (G : Glb w K mg) : Body P w K mg base (xr K) 0 N__law_number "_law_number" (defScope (T 21)) (defBody (T 21)) m__law_number := by
  intro f cd A outer s H E W X tk F hr
  have nd : X.N.Nodup := s__law_number.nd
  exact ⟨_, (ss_cons (ss_set 4 (se_mod (se_intOf G.u_int (sa_cons (se_add (se_var 0) (se_var 2)) sa_nil)) (se_var 1)))
    (ss_cons (ss_if (sb_cmp (c_eq F) (se_var 3) se_int) (ss_one (ss_ret (se_sub (se_sub (se_var 1) se_int) (se_var 4)))) ss_nil)
    (ss_one (ss_ret (se_var 4)))))⟩
theorem c__law_number (G : Glb w K mg) : Cal P w K mg base (xr K) "_law_number" 1 4 f__law_number := by
  obtain ⟨fd, F⟩ := G.D__law_number
  exact cal_of F G.a__law_number s__law_number (fun _ _ _ _ _ _ us hl => match us, hl with | [_, _, _, _], _ => rfl) rfl rfl (b__law_number G)

def N__law_chain_state : List Str := ["_law_states"]
theorem s__law_chain_state : FnScope N__law_chain_state ["_law_states"] (defScope (T 18)) := ⟨rfl, rfl, rfl, by decide +kernel, rfl, by decide +kernel, by decide +kernel⟩
set_option maxHeartbeats 0 in
theorem b__law_chain_state (G : Glb w K mg) : Body P w K mg base (xr K) 0 N__law_chain_state "_law_chain_state" (defScope (T 18)) (defBody (T 18)) m__law_chain_state := by
  intro f cd A outer s H E W X tk F hr
  have nd : X.N.Nodup := s__law_chain_state.nd
  exact ⟨_, (ss_cons (ss_if (sb_cmp (c_in F) se_str (se_var 0)) (ss_one (ss_ret se_str)) ss_nil)
    (ss_cons (ss_if (sb_cmp (c_in F) se_str (se_var 0)) (ss_one (ss_ret se_str)) ss_nil)
    (ss_one (ss_ret se_str))))⟩
theorem c__law_chain_state (G : Glb w K mg) : Cal P w K mg base (xr K) "_law_chain_state" 1 1 f__law_chain_state := by
  obtain ⟨fd, F⟩ := G.D__law_chain_state
  exact cal_of F G.a__law_chain_state s__law_chain_state (fun _ _ _ _ _ _ us hl => match us, hl with | [_], _ => rfl) rfl rfl (b__law_chain_state G)

def N__law_star_state : List Str := ["_law_states"]
theorem s__law_star_state : FnScope N__law_star_state ["_law_states"] (defScope (T 19)) := ⟨rfl, rfl, rfl, by decide +kernel, rfl, by decide +kernel, by decide +kernel⟩
set_option maxHeartbeats 0 in
theorem b__law_star_state (G : Glb w K mg) : Body P w K mg base (xr K) 0 N__law_star_state "_law_star_state" (defScope (T 19)) (defBody (T 19)) m__law_star_state := by
  intro f cd A outer s H E W X tk F hr
  have nd : X.N.Nodup := s__law_star_state.nd
  exact ⟨_, (ss_cons (ss_if (sb_cmp (c_in F) se_str (se_var 0)) (ss_one (ss_ret se_str)) ss_nil)
    (ss_cons (ss_if (sb_cmp (c_in F) se_str (se_var 0)) (ss_one (ss_ret se_str)) ss_nil)
    (ss_one (ss_ret se_str))))⟩
theorem c__law_star_state (G : Glb w K mg) : Cal P w K mg base (xr K) "_law_star_state" 1 1 f__law_star_state := by
  obtain ⟨fd, F⟩ := G.D__law_star_state
  exact cal_of F G.a__law_star_state s__law_star_state (fun _ _ _ _ _ _ us hl => match us, hl with | [_], _ => rfl) rfl rfl (b__law_star_state G)

def N__law_is_integer : List Str := ["_law_actual"]
theorem s__law_is_integer : FnScope N__law_is_integer ["_law_actual"] (defScope (T 16)) := ⟨rfl, rfl, rfl, by decide +kernel, rfl, by decide +kernel, by decide +kernel⟩
set_option maxHeartbeats 0 in
theorem b__law_is_integer (G : Glb w K mg) : Body P w K mg base (xr K) 0 N__law_is_integer "_law_is_integer" (defScope (T 16)) (defBody (T 16)) m__law_is_integer := by
  intro f cd A outer s H E W X tk F hr
  have nd : X.N.Nodup := s__law_is_integer.nd
  exact ⟨_, (ss_one (ss_ret (se_and (se_isi (u := .int) G.u_isinstance G.u_int bi_int (se_var 0)) (se_one (se_not (se_isi (u := .bool) G.u_isinstance G.u_bool bi_bool (se_var 0)))))))⟩
theorem c__law_is_integer (G : Glb w K mg) : Cal P w K mg base (xr K) "_law_is_integer" 1 1 f__law_is_integer := by
  obtain ⟨fd, F⟩ := G.D__law_is_integer
  exact cal_of F G.a__law_is_integer s__law_is_integer (fun _ _ _ _ _ _ us hl => match us, hl with | [_], _ => rfl) rfl rfl (b__law_is_integer G)

def N__law_state : List Str := ["_law_kind", "_law_level"]
theorem s__law_state : FnScope N__law_state ["_law_kind", "_law_level"] (defScope (T 17)) := ⟨rfl, rfl, rfl, by decide +kernel, rfl, by decide +kernel, by decide +kernel⟩
set_option maxHeartbeats 0 in
theorem b__law_state (G : Glb w K mg) : Body P w K mg base (xr K) 0 N__law_state "_law_state" (defScope (T 17)) (defBody (T 17)) m__law_state := by
  intro f cd A outer s H E W X tk F hr
  have nd : X.N.Nodup := s__law_state.nd
  exact ⟨_, (ss_cons (ss_if (sb_cmp c_gt (se_var 1) se_int) (ss_one (ss_ret se_str)) ss_nil)
    (ss_cons (ss_if (sb_cmp (c_eq F) (se_cmp (c_eq F) (se_var 0) se_str) (se_cmp (c_eq F) (se_var 1) se_int)) (ss_one (ss_ret se_str)) ss_nil)
    (ss_one (ss_ret se_str))))⟩
theorem c__law_state (G : Glb w K mg) : Cal P w K mg base (xr K) "_law_state" 1 2 f__law_state := by
  obtain ⟨fd, F⟩ := G.D__law_state
  exact cal_of F G.a__law_state s__law_state (fun _ _ _ _ _ _ us hl => match us, hl with | [_, _], _ => rfl) rfl rfl (b__law_state G)

def N_law : List Str := ["_law_script", "_law_kind", "_law_parts_here", "_law_rail", "_law_kinds", "_law_sizes", "_law_count", "_law_number_here", "_law_fixed", "_law_transistors", "_law_states", "_law_side", "_law_levels", "_law_node", "_law_due_here", "_law_level", "_law_k", "_law_actual", "_law_place", "_law_more", "_law_gate", "_law_ends"]
theorem s_law : FnScope N_law ["_law_script"] (defScope (T 22)) := ⟨rfl, rfl, rfl, by decide +kernel, rfl, by decide +kernel, by decide +kernel⟩
set_option maxHeartbeats 0 in
theorem b_law (G : Glb w K mg) : Body P w K mg base (xr K) 4 N_law "law" (defScope (T 22)) (defBody (T 22)) m_law := by
  intro f cd A outer s H E W X tk F hr
  have nd : X.N.Nodup := s_law.nd
  exact ⟨_, (ss_cons (ss_for F (si_seq (se_lst (sa_cons se_str (sa_cons se_str sa_nil)))) (sg_name 1) (ss_one (ss_for F (si_rng1 G.u_range se_int) (sg_name 15) (ss_cons (ss_set 17 (se_call (c_switch_state G) (hr.mono (by decide)) F.le (sa_cons (se_var 1) (sa_cons (se_var 15) sa_nil))))
    (ss_one (ss_if (sb_w (sw_or (sb_not (sb_tru (se_isi (u := .str) G.u_isinstance G.u_str bi_str (se_var 17)))) (sw_or1 (sb_cmp (c_ne F) (se_var 17) (se_call (c__law_state G) (hr.mono (by decide)) F.le (sa_cons (se_var 1) (sa_cons (se_var 15) sa_nil))))))) (ss_one (ss_ret se_bl)) ss_nil))))))
    (ss_cons (ss_set 2 (se_call (c__law_parts G) (hr.mono (by decide)) F.le (sa_cons (se_call (c__law_cell G) (hr.mono (by decide)) F.le (sa_cons (se_var 0) (sa_cons se_int sa_nil))) (sa_cons (se_lst (sa_cons se_int (sa_cons se_int (sa_cons se_int (sa_cons se_int (sa_cons se_int (sa_cons se_int sa_nil))))))) sa_nil))))
    (ss_cons (ss_set 3 (se_ix F (se_var 2) se_int))
    (ss_cons (ss_set 4 (se_lst (sa_cons (se_ix F (se_lst (sa_cons se_str (sa_cons se_str sa_nil))) (se_var 3)) (sa_cons (se_ix F (se_lst (sa_cons se_str (sa_cons se_str sa_nil))) (se_var 3)) sa_nil))))
    (ss_cons (ss_set 5 (se_lst (sa_cons (se_add se_int (se_ix F (se_var 2) se_int)) (sa_cons (se_ix F (se_var 2) se_int) sa_nil))))
    (ss_cons (ss_set 6 (se_add (se_add se_int (se_mul se_int (se_ix F (se_var 5) se_int))) (se_ix F (se_var 5) se_int)))
    (ss_cons (ss_setLc 7 (sfc_comp (own := [("_law_place", 18)]) (te := (tCallS (spF K (xr K) 4 f__law_number) (CE (C0 ⟨xr K, some W⟩)) (tCons (tVar 18) (tCons (tVar 6) (tCons (tOp (rIxV K) (tVar 2) (tC (.int 3))) (tCons (tOp (rIxV K) (tVar 2) (tC (.int 4))) tNil)))))) (tt := tYes) (g := (gName 18)) F (si_rng1 G.u_range (se_var 6)) (fun s H Cc cl fp => (sg_name 18)) (fun s H Cc cl fp => st_nil) (fun s H Cc cl fp => (se_call (c__law_number G) (hr.mono (by decide)) (F.blk _ _ _ _ _).le (sa_cons (se_var 18) (sa_cons (se_var 6) (sa_cons (se_ix (F.blk _ _ _ _ _) (se_var 2) se_int) (sa_cons (se_ix (F.blk _ _ _ _ _) (se_var 2) se_int) sa_nil))))))))
    (ss_cons (ss_ownD 8 (sd_dictV (spv_cons (se_ix F (se_var 7) (se_var 3)) (se_var 3) (spv_cons (se_ix F (se_var 7) (se_sub se_int (se_var 3))) (se_sub se_int (se_var 3)) spv_nil))))
    (ss_cons (ss_own 9 (sf_lst sa_nil))
    (ss_cons (ss_ownT 10 (str_lstN (strs_cons str_nil (strs_cons str_nil strs_nil))))
    (ss_cons (ss_for F (si_rng1 G.u_range se_int) (sg_name 11) (ss_one (ss_for F (si_rng1 G.u_range (se_ix F (se_var 5) (se_var 11))) (sg_name 16) (ss_cons (ss_set 19 (se_call (c__law_parts G) (hr.mono (by decide)) F.le (sa_cons (se_call (c__law_cell G) (hr.mono (by decide)) F.le (sa_cons (se_var 0) (sa_cons (se_add (se_add se_int (se_mul se_int (se_var 11))) (se_var 16)) sa_nil))) (sa_cons (se_lst (sa_cons se_int (sa_cons se_int sa_nil))) sa_nil))))
    (ss_cons (ss_set 20 (se_ix F (se_var 7) (se_add (se_add se_int (se_mul (se_ix F (se_var 5) se_int) (se_add se_int (se_var 11)))) (se_var 16))))
    (ss_cons (ss_putD 8 F (se_ix F (se_lst (sa_cons se_int (sa_cons se_int (sa_cons se_int sa_nil)))) (se_ix F (se_var 19) se_int)) (se_var 20))
    (ss_cons (ss_atAppN (spl_ix F (spl_s 10) (se_var 11)) (se_call (c__law_state G) (hr.mono (by decide)) F.le (sa_cons (se_ix F (se_var 4) (se_var 11)) (sa_cons (se_ix F (se_var 8) (se_var 20)) sa_nil))))
    (ss_cons (ss_own 21 (sf_lst (sa_cons (se_ix F (se_var 7) se_int) (sa_cons (se_ix F (se_var 7) (se_intOf G.u_int (sa_cons (se_var 3) sa_nil))) sa_nil))))
    (ss_cons (ss_if (sb_cmp (c_eq F) (se_var 11) se_int) (ss_one (ss_item 21 (se_ix F (se_var 7) (se_sub se_int (se_var 3))) se_int)) (ss_one (ss_if (sb_cmp c_gt (se_ix F (se_var 5) se_int) se_int) (ss_one (ss_own 21 (sf_lst (sa_cons (se_ix F (se_var 7) (se_ix F (se_lst (sa_cons se_int (sa_cons (se_add se_int (se_var 16)) sa_nil))) (se_intOf G.u_int (sa_cons (se_cmp c_gt (se_var 16) se_int) sa_nil)))) (sa_cons (se_ix F (se_var 7) (se_ix F (se_lst (sa_cons (se_add se_int (se_var 16)) (sa_cons (se_var 3) sa_nil))) (se_intOf G.u_int (sa_cons (se_cmp (c_eq F) (se_var 16) (se_sub (se_ix F (se_var 5) se_int) se_int)) sa_nil)))) sa_nil))))) ss_nil)))
    (ss_cons (ss_if (sb_cmp (c_eq F) (se_ix F (se_var 19) se_int) se_int) (ss_one (ss_reverse 21)) ss_nil)
    (ss_freeze 21 (ss_one (ss_app 9 (se_tup (sa_cons (se_ix F (se_var 4) (se_var 11)) (sa_cons (se_var 20) (sa_cons (se_ix F (se_var 21) se_int) (sa_cons (se_ix F (se_var 21) se_int) sa_nil))))))))))))))))))
    (ss_freezeD 8 (ss_freezeT 10 (ss_cons (ss_if (sb_cmp (c_eq F) (se_ix F (se_var 2) se_int) se_int) (ss_one (ss_reverse 9)) ss_nil)
    (ss_freeze 9 (ss_cons (ss_set 12 (se_call (c_settle G) hr F.le (sa_cons (se_var 6) (sa_cons (se_var 9) (sa_cons (se_var 8) sa_nil)))))
    (ss_cons (ss_if (sb_w (sw_or (sb_not (sb_tru (se_isi (u := .list) G.u_isinstance G.u_list bi_list (se_var 12)))) (sw_or1 (sb_cmp (c_ne F) (se_len G.u_len (sa_cons (se_var 12) sa_nil)) (se_var 6))))) (ss_one (ss_ret se_bl)) ss_nil)
    (ss_cons (ss_forS 8 F (sg_name 13) (ss_one (ss_if (sb_w (sw_or (sb_not (sb_tru (se_call (c__law_is_integer G) (hr.mono (by decide)) F.le (sa_cons (se_ix F (se_var 12) (se_var 13)) sa_nil)))) (sw_or1 (sb_cmp (c_ne F) (se_ix F (se_var 12) (se_var 13)) (se_ix F (se_var 8) (se_var 13)))))) (ss_one (ss_ret se_bl)) ss_nil)))
    (ss_cons (ss_set 14 (se_call (c__law_due G) (hr.mono (by decide)) F.le (sa_cons (se_call (c__law_chain_state G) (hr.mono (by decide)) F.le (sa_cons (se_ix F (se_var 10) se_int) sa_nil)) (sa_cons (se_call (c__law_star_state G) (hr.mono (by decide)) F.le (sa_cons (se_ix F (se_var 10) se_int) sa_nil)) (sa_cons (se_var 3) sa_nil)))))
    (ss_one (ss_ret (se_and (se_call (c__law_is_integer G) (hr.mono (by decide)) F.le (sa_cons (se_ix F (se_var 12) (se_ix F (se_var 7) se_int)) sa_nil)) (se_one (se_cmp (c_eq F) (se_ix F (se_var 12) (se_ix F (se_var 7) se_int)) (se_var 14)))))))))))))))))))))))))⟩
theorem c_law (G : Glb w K mg) : Cal P w K mg base (xr K) "law" 5 1 f_law := by
  obtain ⟨fd, F⟩ := G.D_law
  exact cal_of F G.a_law s_law (fun _ _ _ _ _ _ us hl => match us, hl with | [_], _ => rfl) rfl rfl (b_law G)

end
end K55
end Vm

namespace Vm
namespace K55
open PySem L2 PyProof.Rows
def d__law_parts : He.DefD := ⟨("_law_parts", none), "_law_parts", "_law_parts", defArgs (T 15), defBody (T 15), defScope (T 15), [], []⟩
def d_check_nodes : He.DefD := ⟨("check_nodes", none), "check_nodes", "check_nodes", defArgs (T 7), defBody (T 7), defScope (T 7), [], []⟩
def d_switch_state : He.DefD := ⟨("switch_state", none), "switch_state", "switch_state", defArgs (T 6), defBody (T 6), defScope (T 6), [], []⟩
def d_neighbours_over : He.DefD := ⟨("neighbours_over", none), "neighbours_over", "neighbours_over", defArgs (T 8), defBody (T 8), defScope (T 8), [], []⟩
def d_reached : He.DefD := ⟨("reached", none), "reached", "reached", defArgs (T 9), defBody (T 9), defScope (T 9), [], []⟩
def d_level_of : He.DefD := ⟨("level_of", none), "level_of", "level_of", defArgs (T 10), defBody (T 10), defScope (T 10), [], []⟩
def d_next_levels : He.DefD := ⟨("next_levels", none), "next_levels", "next_levels", defArgs (T 11), defBody (T 11), defScope (T 11), [], []⟩
def d_settle : He.DefD := ⟨("settle", none), "settle", "settle", defArgs (T 12), defBody (T 12), defScope (T 12), [], []⟩
def d__law_due : He.DefD := ⟨("_law_due", none), "_law_due", "_law_due", defArgs (T 20), defBody (T 20), defScope (T 20), [], []⟩
def d__law_cell : He.DefD := ⟨("_law_cell", none), "_law_cell", "_law_cell", defArgs (T 14), defBody (T 14), defScope (T 14), [], []⟩
def d__law_number : He.DefD := ⟨("_law_number", none), "_law_number", "_law_number", defArgs (T 21), defBody (T 21), defScope (T 21), [], []⟩
def d__law_chain_state : He.DefD := ⟨("_law_chain_state", none), "_law_chain_state", "_law_chain_state", defArgs (T 18), defBody (T 18), defScope (T 18), [], []⟩
def d__law_star_state : He.DefD := ⟨("_law_star_state", none), "_law_star_state", "_law_star_state", defArgs (T 19), defBody (T 19), defScope (T 19), [], []⟩
def d__law_is_integer : He.DefD := ⟨("_law_is_integer", none), "_law_is_integer", "_law_is_integer", defArgs (T 16), defBody (T 16), defScope (T 16), [], []⟩
def d__law_state : He.DefD := ⟨("_law_state", none), "_law_state", "_law_state", defArgs (T 17), defBody (T 17), defScope (T 17), [], []⟩
def d_law : He.DefD := ⟨("law", none), "law", "law", defArgs (T 22), defBody (T 22), defScope (T 22), [], []⟩
def hFn : List He.DefD := [d__law_parts, d_check_nodes, d_switch_state, d_neighbours_over, d_reached, d_level_of, d_next_levels, d_settle, d__law_due, d__law_cell, d__law_number, d__law_chain_state, d__law_star_state, d__law_is_integer, d__law_state, d_law]
def hFa : List He.Fa := [.free "range", .free "len", .free "int", .free "list", .free "enumerate", .free "isinstance", .free "bool", .free "str", .int "UNKNOWN" 3, .int "OPEN" 2, .glo "NoSuchThing", .exc "NoSuchThing", .glo "_law_parts", .glo "check_nodes", .glo "switch_state", .glo "neighbours_over", .glo "reached", .glo "level_of", .glo "next_levels", .glo "settle", .glo "_law_due", .glo "_law_cell", .glo "_law_number", .glo "_law_chain_state", .glo "_law_star_state", .glo "_law_is_integer", .glo "_law_state", .glo "law"]
def hTs : List He.Tab := []
def hEs : List (PySem.W.Frag → Bool) := []
def hEx (K : PySem.W.Frag) : Bool := hEs.all fun f => f K
def loose : List PySem.Str := "GatesError" :: "NoSuchThing" :: "OPEN" :: "UNKNOWN" :: "switch_state" :: "check_nodes" :: "neighbours_over" :: "reached" :: "level_of" :: "next_levels" :: "settle" :: "_law_cell" :: "_law_parts" :: "_law_is_integer" :: "_law_state" :: "_law_chain_state" :: "_law_star_state" :: "_law_due" :: "_law_number" :: []
abbrev RwL : PySem.W.OpenRow := PySem.W.OpenLaw.row PySem.Challenge.rw_gatesread_k55_star_against_chain
abbrev hk : PySem.W.Hook := He.hookX 4 hFa hFn hTs [] hEx
def ob (s : PySem.W.SharedT) : He.AlX := He.obsX 4 hFa hFn hTs [] hEx (HandSHeadRun.getT s)
theorem ob_eq (s : PySem.W.SharedT) : ob s = hk.obs s.abs := He.obsX_eq (HandSHeadRun.getT_eq s)
theorem hrun (w : World) : HandSHeadRun.RunEq RwL (PySem.W.view RwL.prog [22]) hk ob 4000 loose w :=
  PySem.W.byRow2 "special-get-raises" (P := fun w => HandSHeadRun.RunEq RwL (PySem.W.view RwL.prog [22]) hk ob 4000 loose w) (fun w os => by kernel_rfl) (fun w os => by kernel_rfl) w
theorem ex_ok {K : PySem.W.Frag} (c : hEx K = true) (i : Nat) {f : PySem.W.Frag → Bool} (e : hEs[i]? = some f) : f K = true := List.all_eq_true.mp c f (List.mem_of_getElem? e)
theorem glb {w : World} {K : PySem.W.Frag} {h h' : Heap} {mg : Str → Option Value} (X : K.In h) (G0 : h.Ns mainGlobals mg) (c : He.SaysX hFa hFn hTs [] hEx w h' K) : Glb w K mg :=
  ⟨He.free_ok X G0 (c.t.d.fact 0 (f := .free "range") rfl),
   He.free_ok X G0 (c.t.d.fact 1 (f := .free "len") rfl),
   He.free_ok X G0 (c.t.d.fact 2 (f := .free "int") rfl),
   He.free_ok X G0 (c.t.d.fact 3 (f := .free "list") rfl),
   He.free_ok X G0 (c.t.d.fact 4 (f := .free "enumerate") rfl),
   He.free_ok X G0 (c.t.d.fact 5 (f := .free "isinstance") rfl),
   He.free_ok X G0 (c.t.d.fact 6 (f := .free "bool") rfl),
   He.free_ok X G0 (c.t.d.fact 7 (f := .free "str") rfl),
   He.int_ok X G0 (c.t.d.fact 8 (f := .int "UNKNOWN" 3) rfl),
   He.int_ok X G0 (c.t.d.fact 9 (f := .int "OPEN" 2) rfl),
   ⟨He.glo_ok X G0 (c.t.d.fact 10 (f := .glo "NoSuchThing") rfl), He.exc_ok (c.t.d.fact 11 (f := .exc "NoSuchThing") rfl)⟩,
   He.glo_ok X G0 (c.t.d.fact 12 (f := .glo "_law_parts") rfl),
   c.t.d.def_ 0 (d := d__law_parts) rfl,
   He.glo_ok X G0 (c.t.d.fact 13 (f := .glo "check_nodes") rfl),
   c.t.d.def_ 1 (d := d_check_nodes) rfl,
   He.glo_ok X G0 (c.t.d.fact 14 (f := .glo "switch_state") rfl),
   c.t.d.def_ 2 (d := d_switch_state) rfl,
   He.glo_ok X G0 (c.t.d.fact 15 (f := .glo "neighbours_over") rfl),
   c.t.d.def_ 3 (d := d_neighbours_over) rfl,
   He.glo_ok X G0 (c.t.d.fact 16 (f := .glo "reached") rfl),
   c.t.d.def_ 4 (d := d_reached) rfl,
   He.glo_ok X G0 (c.t.d.fact 17 (f := .glo "level_of") rfl),
   c.t.d.def_ 5 (d := d_level_of) rfl,
   He.glo_ok X G0 (c.t.d.fact 18 (f := .glo "next_levels") rfl),
   c.t.d.def_ 6 (d := d_next_levels) rfl,
   He.glo_ok X G0 (c.t.d.fact 19 (f := .glo "settle") rfl),
   c.t.d.def_ 7 (d := d_settle) rfl,
   He.glo_ok X G0 (c.t.d.fact 20 (f := .glo "_law_due") rfl),
   c.t.d.def_ 8 (d := d__law_due) rfl,
   He.glo_ok X G0 (c.t.d.fact 21 (f := .glo "_law_cell") rfl),
   c.t.d.def_ 9 (d := d__law_cell) rfl,
   He.glo_ok X G0 (c.t.d.fact 22 (f := .glo "_law_number") rfl),
   c.t.d.def_ 10 (d := d__law_number) rfl,
   He.glo_ok X G0 (c.t.d.fact 23 (f := .glo "_law_chain_state") rfl),
   c.t.d.def_ 11 (d := d__law_chain_state) rfl,
   He.glo_ok X G0 (c.t.d.fact 24 (f := .glo "_law_star_state") rfl),
   c.t.d.def_ 12 (d := d__law_star_state) rfl,
   He.glo_ok X G0 (c.t.d.fact 25 (f := .glo "_law_is_integer") rfl),
   c.t.d.def_ 13 (d := d__law_is_integer) rfl,
   He.glo_ok X G0 (c.t.d.fact 26 (f := .glo "_law_state") rfl),
   c.t.d.def_ 14 (d := d__law_state) rfl,
   He.glo_ok X G0 (c.t.d.fact 27 (f := .glo "law") rfl),
   c.t.d.def_ 15 (d := d_law) rfl⟩
theorem law_fn (pure : ∀ ns : List Int, ns.length ≤ 63 → f_law [.lst (ns.map Val.int)] = .ret (.bl true)) {P : Program} {w : World} {K : PySem.W.Frag} {h : Heap} {mg : Str → Option Value} {f : Addr} (X : K.In h) (G0 : h.Ns mainGlobals mg) (hfa : mg ("law" : Str) = some (.ref f)) (c : He.SaysX hFa hFn hTs [] hEx w h K) :
    ∃ (fd : FuncData) (sp : Sp), (∀ (s : Shared) (v : Value), BindsTo s fd ⟨[v], []⟩ [("_law_script", v)]) ∧ (∀ (H : Hp) (a : Addr) (ns : List Int), ns.length ≤ 63 → SqL K H a (ns.map V.int) → sp [.ref a] H (fun v _ => v = .bl true) fun _ _ _ => False) ∧
      ∀ base : Heap, K.In base → base.Ns mainGlobals mg → FnOk P w K mg base CX0 5 f fd ["_law_script"] sp := by
  have G := glb X G0 c
  obtain ⟨fd, F⟩ := G.D_law
  have e := hfa.symm.trans G.a_law
  cases e
  have b := FunD.bindsA (ps := ["_law_script"]) F fun _ _ _ _ _ _ us hl => match us, hl with | [_], _ => rfl
  refine ⟨fd, spLaw (spF K (xr K) 1 f_law), fun s v => b s [v] rfl, fun H a ns hl hS => ?_, fun base _ _ => ?_⟩
  · exact law_sp (pure ns hl) hS
  · exact FnOk.to0 (fn_ok F s_law rfl rfl (b_law G))
open PySem PySem.W PySem.Calls PyProof.Rows
theorem gr_holds (pure : ∀ ns : List Int, ns.length ≤ 63 → f_law [.lst (ns.map Val.int)] = .ret (.bl true)) : PySem.Challenge.rw_gatesread_k55_star_against_chain.Holds := by
  w_on; o_law
  refine HandSHeadRun.head_any (r := OpenLaw.row PySem.Challenge.rw_gatesread_k55_star_against_chain) (q := view (OpenLaw.row PySem.Challenge.rw_gatesread_k55_star_against_chain).prog [22]) (H := hk) (ob := ob) (M := 4000) (loose := loose) (d := HandSHeadRun.topDef (OpenLaw.row PySem.Challenge.rw_gatesread_k55_star_against_chain).prog 22) (kwd := []) ob_eq
    (by kernel_rfl) (fun s => by kernel_rfl) hrun (by kernel_rfl) (by kernel_rfl) (by kernel_rfl) (by rfl) (by first | assumption | decide +kernel) (by decide +kernel) ⟨rfl, rfl, rfl, rfl, rfl, by decide +kernel⟩ ?hw ?hc
  case hw => w_witness2
  case hc =>
    refine L2.walk_ofE (l := PySem.Challenge.rw_gatesread_k55_star_against_chain) (n := 63) (k := 5) (x := "_law_script") (CX := L2.CX0) rfl (by decide) (by kernel_rfl) ⟨rfl, by decide, by decide⟩ ?F (fun _ _ _ _ z => z)
    intro w mg fa h Y G hmg0
    obtain ⟨K, KX, c⟩ := Y
    have hmg : mg ("law" : PySem.Str) = some (.ref fa) := by
      have e : (HandSHeadRun.topDef (OpenLaw.row PySem.Challenge.rw_gatesread_k55_star_against_chain).prog 22).name = ("law" : PySem.Str) := by kernel_rfl
      rw [← e]
      exact hmg0
    obtain ⟨fd, sp, hb, hs, hF⟩ := law_fn pure (P := (PySem.Challenge.rw_gatesread_k55_star_against_chain).prog) (w := w) KX G hmg c
    exact ⟨K, fd, sp, KX, hb, fun H a ns hl _ hS => hs H a ns hl hS, hF⟩
end K55
end Vm

noncomputable section
namespace Vm
/-- the same transistor, its ends exchanged or not -/
def Tw (t t' : Tn) : Prop := t'.n = t.n ∧ t'.g = t.g ∧ ((t'.l = t.l ∧ t'.r = t.r) ∨ (t'.l = t.r ∧ t'.r = t.l))
def TwL (ts ts' : List Tn) : Prop := (∀ t ∈ ts, ∃ t' ∈ ts', Tw t t') ∧ (∀ t' ∈ ts', ∃ t ∈ ts, Tw t t')
theorem Tw.refl (t : Tn) : Tw t t := ⟨rfl, rfl, .inl ⟨rfl, rfl⟩⟩
theorem Tw.st {t t' : Tn} (h : Tw t t') (x : Nat) : stOf t' x = stOf t x := by unfold stOf; rw [h.1]
theorem TwL.adj {ts ts' : List Tn} (h : TwL ts ts') (L : List Nat) (ok : Option Bool → Bool) (a b : Nat) : Adj (swE ts' L ok) a b ↔ Adj (swE ts L ok) a b := by
  have one : ∀ {us vs : List Tn}, (∀ t ∈ us, ∃ t' ∈ vs, t'.n = t.n ∧ t'.g = t.g ∧ ((t'.l = t.l ∧ t'.r = t.r) ∨ (t'.l = t.r ∧ t'.r = t.l))) → Adj (swE us L ok) a b → Adj (swE vs L ok) a b := by
    intro us vs hh q
    have go : ∀ x y, (x, y) ∈ swE us L ok → (x, y) ∈ swE vs L ok ∨ (y, x) ∈ swE vs L ok := by
      intro x y hm
      unfold swE at hm
      obtain ⟨t, ht, e⟩ := List.mem_map.mp hm
      obtain ⟨h1, h2⟩ := List.mem_filter.mp ht
      obtain ⟨t', ht', hw⟩ := hh t h1
      have hok : ok (stOf t' (L.getD t'.g 0)) = true := by
        have : stOf t' (L.getD t'.g 0) = stOf t (L.getD t.g 0) := by rw [hw.2.1]; unfold stOf; rw [hw.1]
        rw [this]; exact h2
      have hin : (t'.l, t'.r) ∈ swE vs L ok := List.mem_map.mpr ⟨t', List.mem_filter.mpr ⟨ht', hok⟩, rfl⟩
      cases e
      rcases hw.2.2 with ⟨e1, e2⟩ | ⟨e1, e2⟩
      · rw [e1, e2] at hin; exact .inl hin
      · rw [e1, e2] at hin; exact .inr hin
    rcases q with q | q
    · exact go _ _ q
    · exact (go _ _ q).symm
  refine ⟨one fun t' ht' => ?_, one fun t ht => ?_⟩
  · obtain ⟨t, ht, h1, h2, h3⟩ := h.2 t' ht'
    exact ⟨t, ht, h1.symm, h2.symm, h3.imp (fun z => ⟨z.1.symm, z.2.symm⟩) fun z => ⟨z.2.symm, z.1.symm⟩⟩
  · obtain ⟨t', ht', h1, h2, h3⟩ := h.1 t ht
    exact ⟨t', ht', h1, h2, h3⟩
theorem RB_congr {E E' : List (Nat × Nat)} {ks ks' : List Nat} {lv lv' : Nat → Nat} {s : List Nat} (hE : ∀ a b, Adj E a b ↔ Adj E' a b) (hk : ∀ a, a ∈ ks ↔ a ∈ ks') (hl : ∀ a ∈ ks, lv a = lv' a) (n : Nat) : RB E ks lv s n = RB E' ks' lv' s n := by
  rw [Bool.eq_iff_iff, RB_iff, RB_iff]
  constructor
  · intro h
    induction h with
    | fix h1 h2 h3 h4 => exact .fix ((hk _).mp h1) (by rw [← hl _ h1]; exact h2) ((hE _ _).mp h3) fun z => h4 ((hk _).mpr z)
    | go _ h3 h4 ih => exact .go ih ((hE _ _).mp h3) fun z => h4 ((hk _).mpr z)
  · intro h
    induction h with
    | fix h1 h2 h3 h4 => exact .fix ((hk _).mpr h1) (by rw [hl _ ((hk _).mpr h1)]; exact h2) ((hE _ _).mpr h3) fun z => h4 ((hk _).mp z)
    | go _ h3 h4 ih => exact .go ih ((hE _ _).mpr h3) fun z => h4 ((hk _).mp z)
theorem next_congr {ts ts' : List Tn} {ks ks' : List Nat} {lv lv' : Nat → Nat} (ht : TwL ts ts') (hk : ∀ a, a ∈ ks ↔ a ∈ ks') (hl : ∀ a ∈ ks, lv a = lv' a) (L : List Nat) : nextP ts ks lv L = nextP ts' ks' lv' L := by
  unfold nextP
  apply List.map_congr_left
  intro n _
  have e : ∀ ok s, RB (swE ts L ok) ks lv s n = RB (swE ts' L ok) ks' lv' s n := fun ok s => RB_congr (fun a b => (ht.adj L ok a b).symm) hk hl n
  unfold nxt
  by_cases h : n ∈ ks
  · rw [if_pos h, if_pos ((hk n).mp h)]
  · rw [if_neg h, if_neg (fun z => h ((hk n).mpr z)), e, e, e, e]
theorem settleF_congr {ts ts' : List Tn} {ks ks' : List Nat} {lv lv' : Nat → Nat} (h : ∀ L, nextP ts ks lv L = nextP ts' ks' lv' L) : ∀ (k : Nat) (L : List Nat), settleF ts ks lv k L = settleF ts' ks' lv' k L
  | 0, _ => rfl
  | k + 1, L => by unfold settleF; rw [h L, settleF_congr h k]
theorem settle_congr {n : Nat} {ts ts' : List Tn} {ks ks' : List Nat} {lv lv' : Nat → Nat} (ht : TwL ts ts') (hk : ∀ a, a ∈ ks ↔ a ∈ ks') (hl : ∀ a ∈ ks, lv a = lv' a) : settleP n ts ks lv = settleP n ts' ks' lv' := by
  unfold settleP
  rw [settleF_congr (next_congr ht hk hl)]
  congr 1
  unfold lev0
  apply List.map_congr_left
  intro k _
  by_cases h : k ∈ ks
  · rw [if_pos h, if_pos ((hk k).mp h), hl k h]
  · rw [if_neg h, if_neg (fun z => h ((hk k).mpr z))]
/-! a chain and a star -/
structure CS where
  r : Nat
  a : Nat
  b : Nat
  num : Nat → Nat
  v0 : Nat → Nat
  v1 : Nat → Nat
namespace CS
variable (P : CS)
def n : Nat := 3 + 2 * P.a + P.b
def k0 : Bool := P.r == 0
def q (k : Nat) : Nat := if k + 1 = P.a then P.r else 3 + k
def chT (k : Nat) : Tn := ⟨P.k0, P.num (3 + P.a + k), P.num (2 + k), P.num (P.q k)⟩
def stT (k : Nat) : Tn := ⟨!P.k0, P.num (3 + 2 * P.a + k), P.num 2, P.num (1 - P.r)⟩
def ts : List Tn := (List.range P.a).map P.chT ++ (List.range P.b).map P.stT
def c (k : Nat) : Option Bool := stOf (P.chT k) (P.v0 k)
def s (k : Nat) : Option Bool := stOf (P.stT k) (P.v1 k)
structure Ok (ks : List Nat) (lv : Nat → Nat) : Prop where
  r1 : P.r ≤ 1
  a1 : 1 ≤ P.a
  lt : ∀ p, p < P.n → P.num p < P.n
  inj : ∀ p q, p < P.n → q < P.n → P.num p = P.num q → p = q
  mem : ∀ p, p < P.n → (P.num p ∈ ks ↔ (p < 2 ∨ 3 + P.a ≤ p))
  lr : lv (P.num P.r) = P.r
  lo : lv (P.num (1 - P.r)) = 1 - P.r
  g0 : ∀ k, k < P.a → lv (P.num (3 + P.a + k)) = P.v0 k
  g1 : ∀ k, k < P.b → lv (P.num (3 + 2 * P.a + k)) = P.v1 k
variable {P} {ks : List Nat} {lv : Nat → Nat}
theorem edge (h : P.Ok ks lv) {L : List Nat} (hL : ∀ k ∈ ks, L.getD k 0 = lv k) (ok : Option Bool → Bool) (x y : Nat) : (x, y) ∈ swE P.ts L ok ↔ (∃ k, k < P.a ∧ ok (P.c k) = true ∧ x = P.num (2 + k) ∧ y = P.num (P.q k)) ∨ (∃ k, k < P.b ∧ ok (P.s k) = true ∧ x = P.num 2 ∧ y = P.num (1 - P.r)) := by
  have e0 : ∀ k, k < P.a → stOf (P.chT k) (L.getD (P.chT k).g 0) = P.c k := fun k hk => by
    show stOf (P.chT k) (L.getD (P.num (3 + P.a + k)) 0) = _
    have hp : 3 + P.a + k < P.n := by unfold n; omega
    rw [hL _ ((h.mem _ hp).mpr (.inr (by omega))), h.g0 k hk]
    rfl
  have e1 : ∀ k, k < P.b → stOf (P.stT k) (L.getD (P.stT k).g 0) = P.s k := fun k hk => by
    show stOf (P.stT k) (L.getD (P.num (3 + 2 * P.a + k)) 0) = _
    have hp : 3 + 2 * P.a + k < P.n := by unfold n; omega
    rw [hL _ ((h.mem _ hp).mpr (.inr (by omega))), h.g1 k hk]
    rfl
  unfold swE ts
  rw [List.mem_map]
  constructor
  · rintro ⟨t, ht, e⟩
    obtain ⟨h1, h2⟩ := List.mem_filter.mp ht
    rcases List.mem_append.mp h1 with h1 | h1
    · obtain ⟨k, hk, rfl⟩ := List.mem_map.mp h1
      have hk := List.mem_range.mp hk
      rw [e0 k hk] at h2
      injection e with e3 e4
      exact .inl ⟨k, hk, h2, e3.symm, e4.symm⟩
    · obtain ⟨k, hk, rfl⟩ := List.mem_map.mp h1
      have hk := List.mem_range.mp hk
      rw [e1 k hk] at h2
      injection e with e3 e4
      exact .inr ⟨k, hk, h2, e3.symm, e4.symm⟩
  · rintro (⟨k, hk, h2, rfl, rfl⟩ | ⟨k, hk, h2, rfl, rfl⟩)
    · exact ⟨P.chT k, List.mem_filter.mpr ⟨List.mem_append_left _ (List.mem_map.mpr ⟨k, List.mem_range.mpr hk, rfl⟩), by rw [e0 k hk]; exact h2⟩, rfl⟩
    · exact ⟨P.stT k, List.mem_filter.mpr ⟨List.mem_append_right _ (List.mem_map.mpr ⟨k, List.mem_range.mpr hk, rfl⟩), by rw [e1 k hk]; exact h2⟩, rfl⟩
theorem free2 (h : P.Ok ks lv) {k : Nat} (hk : k < P.a) : P.num (2 + k) ∉ ks := fun z => by
  have := (h.mem (2 + k) (by unfold n; omega)).mp z
  omega
theorem qk (h : P.Ok ks lv) {k : Nat} (hk : k < P.a) : P.q k < P.n ∧ ((k + 1 = P.a ∧ P.q k = P.r) ∨ (k + 1 < P.a ∧ P.q k = 2 + (k + 1))) := by
  have := h.r1
  unfold q n
  by_cases z : k + 1 = P.a
  · rw [if_pos z]; omega
  · rw [if_neg z]; omega
theorem reach_rail (h : P.Ok ks lv) {L : List Nat} (hL : ∀ k ∈ ks, L.getD k 0 = lv k) (ok : Option Bool → Bool) {src : List Nat} (hr : P.r ∈ src) (ho : 1 - P.r ∉ src) : Reach (swE P.ts L ok) ks lv src (P.num 2) ↔ ∀ k, k < P.a → ok (P.c k) = true := by
  have nn : ∀ {p : Nat}, p < 2 → P.num p ∈ ks := fun {p} hp => (h.mem p (by unfold n; omega)).mpr (.inl hp)
  have r1 := h.r1
  have a1 := h.a1
  constructor
  · intro R
    have inv : ∀ x, Reach (swE P.ts L ok) ks lv src x → ∃ j, j < P.a ∧ x = P.num (2 + j) ∧ ∀ i, j ≤ i → i < P.a → ok (P.c i) = true := by
      intro x hx
      induction hx with
      | @fix a0 b0 h1 h2 h3 h4 =>
        rcases h3 with h3 | h3
        · rcases (edge h hL ok a0 b0).mp h3 with ⟨k, hk, _, e, _⟩ | ⟨k, hk, _, e, _⟩
          · exact absurd (e ▸ h1) (free2 h hk)
          · exact absurd (e ▸ h1) (free2 h (k := 0) (by omega))
        · rcases (edge h hL ok b0 a0).mp h3 with ⟨k, hk, hok, e, e'⟩ | ⟨k, hk, _, e, e'⟩
          · rcases (qk h hk).2 with ⟨z, _⟩ | ⟨z, e2⟩
            · exact ⟨k, hk, e, fun i h5 h6 => by have : i = k := by omega
                                                 rw [this]; exact hok⟩
            · rw [e2] at e'; exact absurd (e' ▸ h1) (free2 h (by omega))
          · rw [e', h.lo] at h2; exact absurd h2 ho
      | @go a0 b0 _ h3 h4 ih =>
        obtain ⟨j, hj, rfl, hall⟩ := ih
        have hjn : 2 + j < P.n := by unfold n; omega
        rcases h3 with h3 | h3
        · rcases (edge h hL ok _ b0).mp h3 with ⟨k, hk, _, e, e'⟩ | ⟨k, hk, _, e, e'⟩
          · have : 2 + j = 2 + k := h.inj _ _ hjn (by unfold n; omega) e
            have : j = k := by omega
            subst this
            rcases (qk h hk).2 with ⟨z, e2⟩ | ⟨z, e2⟩
            · rw [e2] at e'; exact absurd (e' ▸ nn (by omega)) h4
            · rw [e2] at e'; exact ⟨j + 1, z, e', fun i h5 h6 => hall i (by omega) h6⟩
          · exact absurd (e' ▸ nn (by omega)) h4
        · rcases (edge h hL ok b0 _).mp h3 with ⟨k, hk, hok, e, e'⟩ | ⟨k, hk, _, e, e'⟩
          · have e3 : 2 + j = P.q k := h.inj _ _ hjn (qk h hk).1 e'
            rcases (qk h hk).2 with ⟨z, e2⟩ | ⟨z, e2⟩
            · omega
            · refine ⟨k, hk, e, fun i h5 h6 => ?_⟩
              by_cases hik : i = k
              · rw [hik]; exact hok
              · exact hall i (by omega) h6
          · have : 2 + j = 1 - P.r := h.inj _ _ hjn (by unfold n; omega) e'
            omega
    obtain ⟨j, hj, e, hall⟩ := inv _ R
    have : 2 = 2 + j := h.inj _ _ (by unfold n; omega) (by unfold n; omega) e
    exact fun k hk => hall k (by omega) hk
  · intro hall
    have down : ∀ m, m < P.a → Reach (swE P.ts L ok) ks lv src (P.num (2 + (P.a - 1 - m))) := by
      intro m
      induction m with
      | zero =>
        intro _
        have hk : P.a - 1 < P.a := by omega
        refine .fix (a := P.num P.r) (nn (by omega)) (by rw [h.lr]; exact hr) (.inr ((edge h hL ok _ _).mpr (.inl ⟨P.a - 1, hk, hall _ hk, rfl, ?_⟩))) (free2 h hk)
        rcases (qk h hk).2 with ⟨_, e2⟩ | ⟨z, _⟩
        · rw [e2]
        · omega
      | succ m ih =>
        intro hm
        have hk : P.a - 1 - (m + 1) < P.a := by omega
        refine .go (ih (by omega)) (.inr ((edge h hL ok _ _).mpr (.inl ⟨P.a - 1 - (m + 1), hk, hall _ hk, rfl, ?_⟩))) (free2 h hk)
        rcases (qk h hk).2 with ⟨z, _⟩ | ⟨z, e2⟩
        · omega
        · rw [e2]; congr 2; omega
    have := down (P.a - 1) (by omega)
    rwa [Nat.sub_self] at this
theorem reach_other (h : P.Ok ks lv) {L : List Nat} (hL : ∀ k ∈ ks, L.getD k 0 = lv k) (ok : Option Bool → Bool) {src : List Nat} (hr : P.r ∉ src) (ho : 1 - P.r ∈ src) : Reach (swE P.ts L ok) ks lv src (P.num 2) ↔ ∃ k, k < P.b ∧ ok (P.s k) = true := by
  have nn : ∀ {p : Nat}, p < 2 → P.num p ∈ ks := fun {p} hp => (h.mem p (by unfold n; omega)).mpr (.inl hp)
  have r1 := h.r1
  have a1 := h.a1
  constructor
  · intro R
    have inv : ∀ x, Reach (swE P.ts L ok) ks lv src x → ∃ k, k < P.b ∧ ok (P.s k) = true := by
      intro x hx
      induction hx with
      | @fix a0 b0 h1 h2 h3 h4 =>
        rcases h3 with h3 | h3
        · rcases (edge h hL ok a0 b0).mp h3 with ⟨k, hk, _, e, _⟩ | ⟨k, hk, _, e, _⟩
          · exact absurd (e ▸ h1) (free2 h hk)
          · exact absurd (e ▸ h1) (free2 h (k := 0) (by omega))
        · rcases (edge h hL ok b0 a0).mp h3 with ⟨k, hk, hok, e, e'⟩ | ⟨k, hk, hok, e, e'⟩
          · rcases (qk h hk).2 with ⟨z, e2⟩ | ⟨z, e2⟩
            · rw [e', e2, h.lr] at h2; exact absurd h2 hr
            · rw [e2] at e'; exact absurd (e' ▸ h1) (free2 h (by omega))
          · exact ⟨k, hk, hok⟩
      | go _ _ _ ih => exact ih
    exact inv _ R
  · rintro ⟨k, hk, hok⟩
    exact .fix (a := P.num (1 - P.r)) (nn (by omega)) (by rw [h.lo]; exact ho) (.inr ((edge h hL ok _ _).mpr (.inr ⟨k, hk, hok, rfl, rfl⟩))) (free2 h (k := 0) (by omega))
def chB (P : CS) (ok : Option Bool → Bool) : Bool := (List.range P.a).all fun k => ok (P.c k)
def stB (P : CS) (ok : Option Bool → Bool) : Bool := (List.range P.b).any fun k => ok (P.s k)
def due (P : CS) : Nat := if P.chB isOn && !P.stB notOff then P.r else if P.stB isOn && !P.chB notOff then 1 - P.r else if !P.chB notOff && !P.stB notOff then 2 else 3
theorem rail_B (h : P.Ok ks lv) {L : List Nat} (hL : ∀ k ∈ ks, L.getD k 0 = lv k) (ok : Option Bool → Bool) {src : List Nat} (hr : P.r ∈ src) (ho : 1 - P.r ∉ src) : RB (swE P.ts L ok) ks lv src (P.num 2) = P.chB ok := by
  rw [Bool.eq_iff_iff, RB_iff, reach_rail h hL ok hr ho]
  unfold chB
  rw [List.all_eq_true]
  exact ⟨fun q k hk => q k (List.mem_range.mp hk), fun q k hk => q k (List.mem_range.mpr hk)⟩
theorem other_B (h : P.Ok ks lv) {L : List Nat} (hL : ∀ k ∈ ks, L.getD k 0 = lv k) (ok : Option Bool → Bool) {src : List Nat} (hr : P.r ∉ src) (ho : 1 - P.r ∈ src) : RB (swE P.ts L ok) ks lv src (P.num 2) = P.stB ok := by
  rw [Bool.eq_iff_iff, RB_iff, reach_other h hL ok hr ho]
  unfold stB
  rw [List.any_eq_true]
  exact ⟨fun ⟨k, hk, q⟩ => ⟨k, List.mem_range.mpr hk, q⟩, fun ⟨k, hk, q⟩ => ⟨k, List.mem_range.mp hk, q⟩⟩
theorem level (h : P.Ok ks lv) {L : List Nat} (S : Settled P.n P.ts ks lv L) (hk : ∀ k ∈ ks, k < P.n) : L.getD (P.num 2) 0 = P.due := by
  have hL : ∀ k ∈ ks, L.getD k 0 = lv k := fun k q => S.at_ k q (hk k q)
  have h2 : P.num 2 < L.length := by rw [S.len]; exact h.lt 2 (by unfold n; omega)
  have := nextP_get P.ts ks lv L h2
  rw [S.fix] at this
  rw [this]
  unfold nxt
  rw [if_neg (free2 h (k := 0) (by have := h.a1; omega))]
  have r1 := h.r1
  have : P.r = 0 ∨ P.r = 1 := by omega
  unfold due
  rcases this with hr | hr
  · rw [rail_B h hL isOn (src := [0]) (by rw [hr]; simp) (by rw [hr]; simp), rail_B h hL notOff (src := [0, 3]) (by rw [hr]; simp) (by rw [hr]; simp), other_B h hL isOn (src := [1]) (by rw [hr]; simp) (by rw [hr]; simp), other_B h hL notOff (src := [1, 3]) (by rw [hr]; simp) (by rw [hr]; simp)]
    rw [hr]
    unfold lvOf
    cases P.chB isOn <;> cases P.stB isOn <;> cases P.chB notOff <;> cases P.stB notOff <;> rfl
  · rw [other_B h hL isOn (src := [0]) (by rw [hr]; simp) (by rw [hr]; simp), other_B h hL notOff (src := [0, 3]) (by rw [hr]; simp) (by rw [hr]; simp), rail_B h hL isOn (src := [1]) (by rw [hr]; simp) (by rw [hr]; simp), rail_B h hL notOff (src := [1, 3]) (by rw [hr]; simp) (by rw [hr]; simp)]
    rw [hr]
    have i1 : P.chB isOn = true → P.chB notOff = true := fun q => by
      unfold chB at q ⊢
      rw [List.all_eq_true] at q ⊢
      exact fun k hk => on_notOff (q k hk)
    have i2 : P.stB isOn = true → P.stB notOff = true := fun q => by
      unfold stB at q ⊢
      rw [List.any_eq_true] at q ⊢
      obtain ⟨k, hk, q⟩ := q
      exact ⟨k, hk, on_notOff q⟩
    unfold lvOf
    revert i1 i2
    cases P.chB isOn <;> cases P.stB isOn <;> cases P.chB notOff <;> cases P.stB notOff <;> simp
theorem nodes (h : P.Ok ks lv) : Lib.NodesIn P.n P.ts := by
  intro t ht
  have a1 := h.a1
  have r1 := h.r1
  rcases List.mem_append.mp ht with ht | ht
  · obtain ⟨k, hk, rfl⟩ := List.mem_map.mp ht
    have hk := List.mem_range.mp hk
    exact ⟨h.lt _ (by unfold n; omega), h.lt _ (by unfold n; omega), h.lt _ (qk h hk).1⟩
  · obtain ⟨k, hk, rfl⟩ := List.mem_map.mp ht
    have hk := List.mem_range.mp hk
    exact ⟨h.lt _ (by unfold n; omega), h.lt _ (by unfold n; omega), h.lt _ (by unfold n; omega)⟩
end CS
end Vm
end

noncomputable section
namespace Vm
namespace K55
open PySem
local macro_rules | `(tactic| simp! [$ts,*]) => `(tactic| simp only [Ok_seq, sSet, sSetN, sOwn, sOwnN, sAppend, sAppendN, sFreeze, sForget, sIf, sRet, sRetN, sNext, sPut, sDrop, sAug, sOn, sItem, sItemN, itemPut, sBreak, sCont, hide, Slot.hide, eVar, eC, e1, e2, eArgs, eAnd, eOr, eNot, eIf, eChain, eCall, eCut, partOf, aNil, aCons, asBl, bVal, bTruth, bAnd, bOr, bNot, bYes, truth, vAdd_int, vAdd_lst, vAdd_tup, vSub, vMul_int, vDiv_int, vMod_int, vPow18, vPow12, vPow11, vPow9, vPow6, vNeg, vLt, vLe, vGt, vGe, vEq, vNe, eqR_int, eqR_bl, eqR_str, vIsi, Val.isOb, vTup, vLst, vLen_lst, vLen_tup, vInt, vIs, vIsNot, vIx_lst, vIx_tup, vIx_dct, vListOf, vTupOf, vIpAdd, vMax2, vMax3, vMin2, Val.ty, Ty.sub, noLst_int, noLst_bl, noLst_str, noLst_non, noLst_tup, noLsts_nil, noLsts_cons, noLsts_ints, pName, pTup, pTupL, putAll, iSeq, itemsOf, iRange1, iRange2, DR.res, Res.ofOpt_some, Res.ofOpt_none, Res.bind_ok, Res.bind_exc, Res.bind_bad, Res.nx_ok, Res.flow_ok, Res.flow_bad, Flow.bind_next, Flow.bind_ret, Flow.bind_brk, Flow.bind_cont, Flow.bind_bad, Ok_next, Ok_ret, Ok_brk, Ok_cont, Ok_bind, Ok_cond, Ok_ite, Ok_ofOpt, flow_ite, bind_ite, nx_ite', flow_cond, bind_cond, cond_andV, cond_orV, cond_and, cond_or, atI_nat, atI_0, atI_1, atI_lit, startE, List.map_cons, List.map_nil, List.length_cons, List.length_nil, List.getElem?_cons_zero, List.getElem?_cons_succ, List.set_cons_zero, List.set_cons_succ, List.set_nil, List.replicate, List.append_nil, List.cons_append, List.nil_append, Nat.sub_self, Nat.reduceAdd, Nat.reduceSub, Nat.reduceLT, Nat.reduceLeDiff, Nat.reduceEqDiff, Int.reduceLE, Int.reduceLT, Int.reduceToNat, Int.reducePow, Int.reduceMul, Int.reduceAdd, Int.reduceSub, Int.reduceNeg, Int.cast_ofNat_Int, if_true, if_false, ↓reduceIte, reduceCtorEq, beq_self_eq_true, and_true, true_and, decide_eq_true_eq, decide_eq_false_iff_not, Bool.not_eq_true', Bool.not_eq_false', Bool.and_true, Bool.true_and, Bool.or_true, Bool.and_false, Bool.or_false, Bool.false_or, Bool.true_or, Bool.false_and, Bool.not_true, Bool.not_false, beq_iff_eq, forall_const, false_implies, Option.map_some, decide_true, decide_false, cond_true, cond_false, $ts,*])
open Lib
/-! numbers of places -/
def numP (n turn down p : Nat) : Nat := if down = 1 then n - 1 - (p + turn) % n else (p + turn) % n
theorem numP_lt {n turn down p : Nat} (h : 0 < n) : numP n turn down p < n := by
  have := Nat.mod_lt (p + turn) h
  unfold numP
  split <;> omega
theorem mod_inj {n t p q : Nat} (hp : p < n) (hq : q < n) (e : (p + t) % n = (q + t) % n) : p = q := by
  have h0 : 0 < n := by omega
  have h1 : ((p + t) % n + (n - t % n)) % n = p := by
    rw [Nat.mod_add_mod]
    have : p + t + (n - t % n) = p + n * (t / n + 1) := by
      have h2 := Nat.div_add_mod t n
      have h3 := Nat.mod_lt t h0
      have h4 : n * (t / n + 1) = n * (t / n) + n := by rw [Nat.mul_add, Nat.mul_one]
      omega
    rw [this, Nat.add_mul_mod_self_left, Nat.mod_eq_of_lt hp]
  have h2 : ((q + t) % n + (n - t % n)) % n = q := by
    rw [Nat.mod_add_mod]
    have : q + t + (n - t % n) = q + n * (t / n + 1) := by
      have h2 := Nat.div_add_mod t n
      have h3 := Nat.mod_lt t h0
      have h4 : n * (t / n + 1) = n * (t / n) + n := by rw [Nat.mul_add, Nat.mul_one]
      omega
    rw [this, Nat.add_mul_mod_self_left, Nat.mod_eq_of_lt hq]
  rw [← h1, e, h2]
theorem numP_inj {n turn down p q : Nat} (hp : p < n) (hq : q < n) (e : numP n turn down p = numP n turn down q) : p = q := by
  have h1 := Nat.mod_lt (p + turn) (show 0 < n by omega)
  have h2 := Nat.mod_lt (q + turn) (show 0 < n by omega)
  unfold numP at e
  by_cases hd : down = 1
  · rw [if_pos hd, if_pos hd] at e
    exact mod_inj (t := turn) hp hq (by omega)
  · rw [if_neg hd, if_neg hd] at e
    exact mod_inj hp hq e
theorem number_ok (n turn down p : Nat) (h : 0 < n) : f__law_number [iv p, iv n, iv turn, iv down] = .ret (iv (numP n turn down p)) := by
  refine defn_ret rfl ?_
  have hn : (0 : Int) < (n : Int) := by omega
  have hm : ((p : Int) + (turn : Int)) % (n : Int) = (((p + turn) % n : Nat) : Int) := by push_cast; rfl
  unfold m__law_number iv
  simp! [hn, hm]
  refine Then.mk ?_
  unfold m__law_number_1 numP
  by_cases hd : down = 1
  · subst hd
    have hlt := Nat.mod_lt (p + turn) h
    have hc : ((n : Int) - 1 - (((p + turn) % n : Nat) : Int)) = ((n - 1 - (p + turn) % n : Nat) : Int) := by omega
    have e1 : ((1 : Nat) : Int) = 1 := rfl
    simp only [e1, hc, if_true]
    simp! [hc]
  · have d : ((down : Int) == 1) = false := by rw [beq_eq_false_iff_ne]; omega
    have d2 : ((down : Int) = 1) = False := eq_false (by omega)
    rw [if_neg hd]
    simp! [d, d2]
    refine Then.mk ?_; unfold m__law_number_2; simp! []
/-! states -/
theorem state_ok (t : Tn) (lv : Nat) : f__law_state [.str (kS t.n), iv lv] = .ret (.str (stS (stOf t lv))) := by
  refine defn_ret rfl ?_
  unfold m__law_state stOf
  by_cases h0 : lv = 0
  · subst h0
    have e : (bVal (e2 vGt (eVar 1) (eC (.int 1)))) (startE 2 [.str (kS t.n), iv 0]) = .ok false := rfl
    unfold sIf
    rw [Ok_seq, e]
    simp only [Res.flow_ok, cond_false, sNext, Ok_next]
    refine Then.mk ?_
    unfold m__law_state_1
    cases t.n <;> rw [Ok_eq] <;> rfl
  · by_cases h1 : lv = 1
    · subst h1
      have e : (bVal (e2 vGt (eVar 1) (eC (.int 1)))) (startE 2 [.str (kS t.n), iv 1]) = .ok false := rfl
      unfold sIf
      rw [Ok_seq, e]
      simp only [Res.flow_ok, cond_false, sNext, Ok_next]
      refine Then.mk ?_
      unfold m__law_state_1
      cases t.n <;> rw [Ok_eq] <;> rfl
    · have e : (bVal (e2 vGt (eVar 1) (eC (.int 1)))) (startE 2 [.str (kS t.n), iv lv]) = .ok true := by
        show Res.ok (decide ((1 : Int) < (lv : Int))) = _
        rw [decide_eq_true (by omega)]
      unfold sIf
      rw [Ok_seq, e]
      simp only [Res.flow_ok, cond_true]
      rw [if_neg (by omega)]
      rw [Ok_eq]
      rfl
def strsV (l : List (Option Bool)) : Val := .lst (l.map fun o => .str (stS o))
theorem in_strs (o : Option Bool) (l : List (Option Bool)) : vIn (.str (stS o)) (strsV l) = .ok (.bl (decide (o ∈ l))) := by
  have hf : (l.map fun o => Val.str (stS o)).all Val.isFlat = true := by rw [List.all_map, List.all_eq_true]; intro k _; rfl
  show (if (true && (l.map fun o => Val.str (stS o)).all Val.isFlat) = true then Res.ok (Val.bl (inFlat (.str (stS o)) (l.map fun o => Val.str (stS o)))) else .bad) = _
  rw [hf, if_pos (by rfl)]
  unfold inFlat
  rw [List.any_map]
  congr 2
  have inj : ∀ x y : Option Bool, ((stS x == stS y) = true) ↔ x = y := by
    intro x y
    rw [beq_iff_eq]
    rcases x with _ | _ | _ <;> rcases y with _ | _ | _ <;> simp [stS] <;> decide
  rw [Bool.eq_iff_iff, List.any_eq_true, decide_eq_true_iff]
  constructor
  · rintro ⟨k, hk, h⟩
    have : k = o := (inj k o).mp h
    exact this ▸ hk
  · intro h
    exact ⟨o, h, (inj o o).mpr rfl⟩
theorem chain_ok (l : List (Option Bool)) : f__law_chain_state [strsV l] = .ret (.str (stS (if l.all notOff then (if l.all isOn then some true else none) else some false))) := by
  refine defn_ret rfl ?_
  unfold m__law_chain_state
  have t1 : (bVal (e2 vIn (eC (.str "off")) (eVar 0))) (startE 1 [strsV l]) = .ok (decide (some false ∈ l)) := by
    show ((vIn (.str (stS (some false))) (strsV l)).bind _) = _
    rw [in_strs]; rfl
  have t2 : (bVal (e2 vIn (eC (.str "undecided")) (eVar 0))) (startE 1 [strsV l]) = .ok (decide (none ∈ l)) := by
    show ((vIn (.str (stS none)) (strsV l)).bind _) = _
    rw [in_strs]; rfl
  have n1 : l.all notOff = !decide (some false ∈ l) := by
    rw [Bool.eq_iff_iff, List.all_eq_true, Bool.not_eq_true', decide_eq_false_iff_not]
    constructor
    · intro h z; have := h _ z; cases this
    · intro h o ho
      rcases o with _ | _ | _
      · rfl
      · exact absurd ho h
      · rfl
  have n2 : some false ∉ l → l.all isOn = !decide (none ∈ l) := by
    intro hf
    rw [Bool.eq_iff_iff, List.all_eq_true, Bool.not_eq_true', decide_eq_false_iff_not]
    constructor
    · intro h z; have := h _ z; cases this
    · intro h o ho
      rcases o with _ | _ | _
      · exact absurd ho h
      · exact absurd ho hf
      · rfl
  unfold sIf
  rw [Ok_seq, t1, n1]
  simp only [Res.flow_ok]
  by_cases h1 : some false ∈ l
  · rw [decide_eq_true h1]
    simp only [cond_true]
    rw [Ok_eq]; rfl
  · rw [decide_eq_false h1, n2 h1]
    simp only [cond_false, sNext, Ok_next]
    refine Then.mk ?_
    unfold m__law_chain_state_1 sIf
    rw [Ok_seq, t2]
    simp only [Res.flow_ok]
    by_cases h2 : none ∈ l
    · rw [decide_eq_true h2]
      simp only [cond_true]
      rw [Ok_eq]; rfl
    · rw [decide_eq_false h2]
      simp only [cond_false, sNext, Ok_next]
      refine Then.mk ?_; unfold m__law_chain_state_2; simp! []
      rfl
theorem star_ok (l : List (Option Bool)) : f__law_star_state [strsV l] = .ret (.str (stS (if l.any isOn then some true else if l.any notOff then none else some false))) := by
  refine defn_ret rfl ?_
  unfold m__law_star_state
  have t1 : (bVal (e2 vIn (eC (.str "on")) (eVar 0))) (startE 1 [strsV l]) = .ok (decide (some true ∈ l)) := by
    show ((vIn (.str (stS (some true))) (strsV l)).bind _) = _
    rw [in_strs]; rfl
  have t2 : (bVal (e2 vIn (eC (.str "undecided")) (eVar 0))) (startE 1 [strsV l]) = .ok (decide (none ∈ l)) := by
    show ((vIn (.str (stS none)) (strsV l)).bind _) = _
    rw [in_strs]; rfl
  have n1 : l.any isOn = decide (some true ∈ l) := by
    rw [Bool.eq_iff_iff, List.any_eq_true, decide_eq_true_iff]
    constructor
    · rintro ⟨o, ho, h⟩
      rcases o with _ | _ | _
      · cases h
      · cases h
      · exact ho
    · intro h; exact ⟨_, h, rfl⟩
  have n2 : some true ∉ l → l.any notOff = decide (none ∈ l) := by
    intro hf
    rw [Bool.eq_iff_iff, List.any_eq_true, decide_eq_true_iff]
    constructor
    · rintro ⟨o, ho, h⟩
      rcases o with _ | _ | _
      · exact ho
      · cases h
      · exact absurd ho hf
    · intro h; exact ⟨_, h, rfl⟩
  unfold sIf
  rw [Ok_seq, t1, n1]
  simp only [Res.flow_ok]
  by_cases h1 : some true ∈ l
  · rw [decide_eq_true h1]
    simp only [cond_true]
    rw [Ok_eq]; rfl
  · rw [decide_eq_false h1, n2 h1]
    simp only [cond_false, sNext, Ok_next]
    refine Then.mk ?_
    unfold m__law_star_state_1 sIf
    rw [Ok_seq, t2]
    simp only [Res.flow_ok]
    by_cases h2 : none ∈ l
    · rw [decide_eq_true h2]
      simp only [cond_true]
      rw [Ok_eq]; rfl
    · rw [decide_eq_false h2]
      simp only [cond_false, sNext, Ok_next]
      refine Then.mk ?_; unfold m__law_star_state_2; simp! []
      rfl
def dueO (c s : Option Bool) (r : Nat) : Nat := if c = some true ∧ s = some false then r else if s = some true ∧ c = some false then 1 - r else if c = some false ∧ s = some false then 2 else 3
theorem due_ok (c s : Option Bool) (r : Nat) (hr : r ≤ 1) : f__law_due [.str (stS c), .str (stS s), iv r] = .ret (iv (dueO c s r)) := by
  refine defn_ret rfl ?_
  have : r = 0 ∨ r = 1 := by omega
  rw [Ok_eq]
  rcases this with rfl | rfl <;> rcases c with _ | _ | _ <;> rcases s with _ | _ | _ <;> rfl
end K55
end Vm
end

noncomputable section
namespace Vm
namespace K55
open PySem
open Lib
def v3 (d : Nat) : Nat := if d = 2 then 3 else d
theorem v3_at {d : Nat} (h : d < 3) : atI [Val.int 0, .int 1, .int 3] (d : Int) = some (iv (v3 d)) := by
  have : d = 0 ∨ d = 1 ∨ d = 2 := by omega
  rcases this with rfl | rfl | rfl <;> rfl
theorem v3_ok {d : Nat} (h : d < 3) : v3 d = 0 ∨ v3 d = 1 ∨ v3 d = 3 := by unfold v3; split <;> omega
/-- what the law has drawn -/
structure Dr where
  ns : List Int
  r : Nat
  a : Nat
  b : Nat
  turn : Nat
  down : Nat
  rev : Nat
  D : Nat → Nat × Nat
namespace Dr
variable (X : Dr)
def n : Nat := 3 + 2 * X.a + X.b
def num : Nat → Nat := numP X.n X.turn X.down
def P : CS := ⟨X.r, X.a, X.b, X.num, fun k => v3 (X.D (1 + k)).1, fun k => v3 (X.D (6 + k)).1⟩
def parts : Val := .lst [iv X.r, .int ((X.a : Int) - 1), iv X.b, iv X.turn, iv X.down, iv X.rev]
def script : Val := .lst (X.ns.map .int)
def kinds : Val := .lst [.str (kS (X.r == 0)), .str (kS (!(X.r == 0)))]
def nums : List Nat := (List.range X.n).map X.num
structure Good (X : Dr) : Prop where
  r1 : X.r ≤ 1
  a1 : 1 ≤ X.a
  a5 : X.a ≤ 5
  b5 : X.b ≤ 5
  dr : ∀ m : Nat, ∃ z : Int, f__law_cell [.lst (X.ns.map .int), .int (m : Int)] = .ret (.int z) ∧ f__law_parts [.int z, .lst [.int 3, .int 2]] = .ret (.lst [iv (X.D m).1, iv (X.D m).2]) ∧ (X.D m).1 < 3 ∧ (X.D m).2 < 2
def T (s k : Nat) : Tn := if s = 0 then X.P.chT k else X.P.stT k
def w (s k : Nat) : Nat := if s = 0 then X.P.v0 k else X.P.v1 k
def gp (s k : Nat) : Nat := 3 + X.a * (1 + s) + k
def In (s k : Nat) : Prop := (s = 0 ∧ k < X.a) ∨ (s = 1 ∧ k < X.b)
theorem gp_lt {s k : Nat} (h : X.In s k) : 3 + X.a ≤ X.gp s k ∧ X.gp s k < X.n := by
  unfold gp n
  rcases h with ⟨rfl, h⟩ | ⟨rfl, h⟩
  · omega
  · have : X.a * (1 + 1) = 2 * X.a := by omega
    omega
theorem gp_inj {s k s' k' : Nat} (h : X.In s k) (h' : X.In s' k') (e : X.gp s k = X.gp s' k') : s = s' ∧ k = k' := by
  unfold gp at e
  have e2 : X.a * (1 + 1) = 2 * X.a := by omega
  rcases h with ⟨rfl, h⟩ | ⟨rfl, h⟩ <;> rcases h' with ⟨rfl, h'⟩ | ⟨rfl, h'⟩ <;> omega
theorem T_g {s k : Nat} (h : X.In s k) : (X.T s k).g = X.num (X.gp s k) := by
  have e2 : X.a * (1 + 1) = 2 * X.a := by omega
  rcases h with ⟨rfl, h⟩ | ⟨rfl, h⟩
  · show X.num (3 + X.a + k) = _; unfold gp; congr 1; omega
  · show X.num (3 + 2 * X.a + k) = _; unfold gp; congr 1; omega
theorem w_eq {s k : Nat} (h : X.In s k) : X.w s k = v3 (X.D (1 + 5 * s + k)).1 := by
  rcases h with ⟨rfl, h⟩ | ⟨rfl, h⟩
  · show v3 (X.D (1 + k)).1 = _; congr 2
  · show v3 (X.D (6 + k)).1 = _; congr 2
abbrev Pr := Nat × Nat
def sts (s : Nat) (done : List Pr) : List (Option Bool) := (done.filter fun p => p.1 == s).map fun p => stOf (X.T p.1 p.2) (X.w p.1 p.2)
def strsT (l : List (Option Bool)) : Tr := .l (l.map fun o => .v (.str (stS o)))
def W (kvs : List (Key × Val)) (os : List Tn) (t0 t1 : List (Option Bool)) (s1 s11 s15 s16 s17 s19 s20 s21 : Slot) : Env := [.sh X.script, s1, .sh X.parts, .sh (iv X.r), .sh X.kinds, .sh (.lst [iv X.a, iv X.b]), .sh (iv X.n), .sh (.lst (X.nums.map iv)), .oD kvs, .oL (os.map Tn.v), .oT (.l [strsT t0, strsT t1]), s11, .un, .un, .un, s15, s16, s17, .un, s19, s20, s21]
def ksOf (done : List Pr) : List Nat := [X.num X.r, X.num (1 - X.r)] ++ done.map fun p => X.num (X.gp p.1 p.2)
structure Inv (X : Dr) (done : List Pr) (ks : List Nat) (lv : Nat → Nat) (os : List Tn) (t0 t1 : List (Option Bool)) : Prop where
  ksE : ks = X.ksOf done
  lr : lv (X.num X.r) = X.r
  lo : lv (X.num (1 - X.r)) = 1 - X.r
  lg : ∀ p ∈ done, lv (X.num (X.gp p.1 p.2)) = X.w p.1 p.2
  tw : TwL (done.map fun p => X.T p.1 p.2) os
  len : os.length = done.length
  s0 : t0 = X.sts 0 done
  s1 : t1 = X.sts 1 done
variable {X}
theorem num_lt (g : X.Good) (p : Nat) : X.num p < X.n := numP_lt (by unfold n; have := g.a1; omega)
theorem num_inj (g : X.Good) {p q : Nat} (hp : p < X.n) (hq : q < X.n) (e : X.num p = X.num q) : p = q := numP_inj hp hq e
theorem nums_len : X.nums.length = X.n := by unfold nums; rw [List.length_map, List.length_range]
theorem nums_get {p : Nat} (h : p < X.n) : vIx (.lst (X.nums.map iv)) (iv p) = .ok (iv (X.num p)) := by
  unfold iv
  rw [vIx_lst, atI_nat, List.getElem?_map]
  unfold nums
  rw [List.getElem?_map, List.getElem?_range h]
  rfl
theorem new_key (g : X.Good) {done : List Pr} (hin : ∀ p ∈ done, X.In p.1 p.2) {s k : Nat} (h : X.In s k) (hn : (s, k) ∉ done) : X.num (X.gp s k) ∉ X.ksOf done := by
  have r1 := g.r1
  have a1 := g.a1
  have l := X.gp_lt h
  intro z
  unfold ksOf at z
  rcases List.mem_append.mp z with z | z
  · simp only [List.mem_cons, List.not_mem_nil, or_false] at z
    rcases z with z | z
    · have := num_inj g l.2 (by unfold n; omega) z; omega
    · have := num_inj g l.2 (by unfold n; omega) z; omega
  · obtain ⟨p, hp, e⟩ := List.mem_map.mp z
    have := X.gp_inj (hin p hp) h (num_inj g (X.gp_lt (hin p hp)).2 l.2 e)
    exact hn (by rw [← this.1, ← this.2]; exact hp)
theorem step (g : X.Good) {done : List Pr} {ks : List Nat} {lv : Nat → Nat} {os : List Tn} {t0 t1 : List (Option Bool)} (I : Inv X done ks lv os t0 t1) (hin : ∀ p ∈ done, X.In p.1 p.2) (hdl : done.length ≤ 20) {s k : Nat} (h : X.In s k) (hn : (s, k) ∉ done) (s1 s15 s17 s19 s20 s21 : Slot) : ∃ (ks' : List Nat) (lv' : Nat → Nat) (os' : List Tn) (t0' t1' : List (Option Bool)) (u19 u20 u21 : Slot), m_law_ka_L (X.W (kvsN ks fun x => iv (lv x)) os t0 t1 s1 (.sh (iv s)) s15 (.sh (iv k)) s17 s19 s20 s21) = .next (X.W (kvsN ks' fun x => iv (lv' x)) os' t0' t1' s1 (.sh (iv s)) s15 (.sh (iv k)) s17 u19 u20 u21) ∧ Inv X (done ++ [(s, k)]) ks' lv' os' t0' t1' := by
  have r1 := g.r1
  have a1 := g.a1
  have a5 := g.a5
  have b5 := g.b5
  have hs : s ≤ 1 := by rcases h with ⟨rfl, _⟩ | ⟨rfl, _⟩ <;> omega
  have hk5 : k < 5 := by rcases h with ⟨_, _⟩ | ⟨_, _⟩ <;> omega
  have nl : X.n ≤ 20 := by unfold n; omega
  obtain ⟨z, ez, ep, hd1, hd2⟩ := g.dr (1 + 5 * s + k)
  have hw := X.w_eq h
  have gl := X.gp_lt h
  have nk := new_key g hin h hn
  have key : ks = X.ksOf done := I.ksE
  have kl : ks.length ≤ 30 := by rw [key]; unfold ksOf; rw [List.length_append, List.length_map]; show 2 + done.length ≤ 30; omega
  let G := X.num (X.gp s k)
  let V := X.w s k
  -- the draw
  have c1 : (1 : Int) + 5 * (s : Int) + (k : Int) = ((1 + 5 * s + k : Nat) : Int) := by push_cast; rfl
  have m5 : mulOk 5 (s : Int) = true := mulOk_l _ _ (by omega)
  have w1 : sSet 19 (eCall f__law_parts (aCons (eCall f__law_cell (aCons (eVar 0) (aCons (e2 vAdd (e2 vAdd (eC (.int 1)) (e2 vMul (eC (.int 5)) (eVar 11))) (eVar 16)) aNil))) (aCons (eArgs vLst (aCons (eC (.int 3)) (aCons (eC (.int 2)) aNil))) aNil))) (X.W (kvsN ks fun x => iv (lv x)) os t0 t1 s1 (.sh (iv s)) s15 (.sh (iv k)) s17 s19 s20 s21) = .next (X.W (kvsN ks fun x => iv (lv x)) os t0 t1 s1 (.sh (iv s)) s15 (.sh (iv k)) s17 (.sh (.lst [iv (X.D (1 + 5 * s + k)).1, iv (X.D (1 + 5 * s + k)).2])) s20 s21) := by
    have ea : (e2 vAdd (e2 vAdd (eC (.int 1)) (e2 vMul (eC (.int 5)) (eVar 11))) (eVar 16)) (hide (X.W (kvsN ks fun x => iv (lv x)) os t0 t1 s1 (.sh (iv s)) s15 (.sh (iv k)) s17 s19 s20 s21)) = .ok (.int ((1 + 5 * s + k : Nat) : Int)) := by
      have vm : vMul (.int 5) (iv s) = .ok (.int (5 * (s : Int))) := by show (if mulOk 5 (s : Int) = true then _ else _) = _; rw [if_pos m5]
      show (((vMul (.int 5) (iv s)).bind fun y => vAdd (.int 1) y).bind fun x => vAdd x (iv k)) = _
      rw [vm]
      show Res.ok (Val.int (1 + 5 * (s : Int) + (k : Int))) = _
      rw [c1]
    have e0 : (eVar 0) (hide (X.W (kvsN ks fun x => iv (lv x)) os t0 t1 s1 (.sh (iv s)) s15 (.sh (iv k)) s17 s19 s20 s21)) = .ok (.lst (X.ns.map .int)) := rfl
    generalize (e2 vAdd (e2 vAdd (eC (.int 1)) (e2 vMul (eC (.int 5)) (eVar 11))) (eVar 16)) = MA at ea
    generalize hQ : X.W (kvsN ks fun x => iv (lv x)) os t0 t1 s1 (.sh (iv s)) s15 (.sh (iv k)) s17 s19 s20 s21 = Q at ea e0
    unfold sSet
    have ev : (eCall f__law_parts (aCons (eCall f__law_cell (aCons (eVar 0) (aCons MA aNil))) (aCons (eArgs vLst (aCons (eC (.int 3)) (aCons (eC (.int 2)) aNil))) aNil))) (hide Q) = .ok (.lst [iv (X.D (1 + 5 * s + k)).1, iv (X.D (1 + 5 * s + k)).2]) := by
      have ec : (eCall f__law_cell (aCons (eVar 0) (aCons MA aNil))) (hide Q) = .ok (.int z) := by
        unfold eCall aCons
        rw [e0]
        simp only [Res.bind_ok]
        rw [ea]
        simp only [Res.bind_ok, aNil]
        show (f__law_cell [.lst (X.ns.map .int), .int ((1 + 5 * s + k : Nat) : Int)]).res = _
        rw [ez]
        rfl
      generalize eCall f__law_cell (aCons (eVar 0) (aCons MA aNil)) = MB at ec
      unfold eCall aCons
      rw [ec]
      simp only [Res.bind_ok, aNil]
      show (f__law_parts [.int z, .lst [.int 3, .int 2]]).res = _
      rw [ep]
      rfl
    rw [ev, ← hQ]
    rfl
  have w2 : sSet 20 (e2 vIx (eVar 7) (e2 vAdd (e2 vAdd (eC (.int 3)) (e2 vMul (e2 vIx (eVar 5) (eC (.int 0))) (e2 vAdd (eC (.int 1)) (eVar 11)))) (eVar 16))) (X.W (kvsN ks fun x => iv (lv x)) os t0 t1 s1 (.sh (iv s)) s15 (.sh (iv k)) s17 (.sh (.lst [iv (X.D (1 + 5 * s + k)).1, iv (X.D (1 + 5 * s + k)).2])) s20 s21) = .next (X.W (kvsN ks fun x => iv (lv x)) os t0 t1 s1 (.sh (iv s)) s15 (.sh (iv k)) s17 (.sh (.lst [iv (X.D (1 + 5 * s + k)).1, iv (X.D (1 + 5 * s + k)).2])) (.sh (iv G)) s21) := by
    have vm : vMul (iv X.a) (.int (1 + (s : Int))) = .ok (.int ((X.a : Int) * (1 + (s : Int)))) := by show (if mulOk (X.a : Int) (1 + (s : Int)) = true then _ else _) = _; rw [if_pos (mulOk_l _ _ (by omega))]
    have c2 : (3 : Int) + (X.a : Int) * (1 + (s : Int)) + (k : Int) = ((X.gp s k : Nat) : Int) := by unfold gp; push_cast; rfl
    show ((((vMul (iv X.a) (.int (1 + (s : Int)))).bind fun y => vAdd (.int 3) y).bind fun x => vAdd x (iv k)).bind fun y => vIx (.lst (X.nums.map iv)) y).flow _ _ = _
    rw [vm]
    show ((vIx (.lst (X.nums.map iv)) (.int ((3 : Int) + (X.a : Int) * (1 + (s : Int)) + (k : Int)))).flow _ _) = _
    rw [c2]
    have gg : vIx (.lst (X.nums.map iv)) (.int ((X.gp s k : Nat) : Int)) = .ok (iv (X.num (X.gp s k))) := nums_get (X := X) gl.2
    rw [gg]
    rfl
  let lv' : Nat → Nat := fun x => if x = G then V else lv x
  let ks' := ks ++ [G]
  have w3 : sOnD 8 (sPutD 8 (eVar 20) (e2 vIx (eArgs vLst (aCons (eC (.int 0)) (aCons (eC (.int 1)) (aCons (eC (.int 3)) aNil)))) (e2 vIx (eVar 19) (eC (.int 0))))) (X.W (kvsN ks fun x => iv (lv x)) os t0 t1 s1 (.sh (iv s)) s15 (.sh (iv k)) s17 (.sh (.lst [iv (X.D (1 + 5 * s + k)).1, iv (X.D (1 + 5 * s + k)).2])) (.sh (iv G)) s21) = .next (X.W (kvsN ks' fun x => iv (lv' x)) os t0 t1 s1 (.sh (iv s)) s15 (.sh (iv k)) s17 (.sh (.lst [iv (X.D (1 + 5 * s + k)).1, iv (X.D (1 + 5 * s + k)).2])) (.sh (iv G)) s21) := by
    show ((Res.ofOpt (atI [Val.int 0, .int 1, .int 3] ((X.D (1 + 5 * s + k)).1 : Int))).flow _ fun x => if (kvsN ks fun x => iv (lv x)).length < 16777216 then Flow.next (X.W (putV (kvsN ks fun x => iv (lv x)) (.inl (G : Int)) x) os t0 t1 s1 (.sh (iv s)) s15 (.sh (iv k)) s17 (.sh (.lst [iv (X.D (1 + 5 * s + k)).1, iv (X.D (1 + 5 * s + k)).2])) (.sh (iv G)) s21) else .bad) = _
    rw [v3_at hd1, ← hw]
    show (if (kvsN ks fun x => iv (lv x)).length < 16777216 then Flow.next (X.W (putV (kvsN ks fun x => iv (lv x)) (.inl (G : Int)) (iv V)) os t0 t1 s1 (.sh (iv s)) s15 (.sh (iv k)) s17 (.sh (.lst [iv (X.D (1 + 5 * s + k)).1, iv (X.D (1 + 5 * s + k)).2])) (.sh (iv G)) s21) else .bad) = _
    rw [kvsN_len, if_pos (by omega), kvsN_put, if_neg (by rw [key]; exact nk)]
    have : updN (fun x => iv (lv x)) G (iv V) = fun x => iv (lv' x) := by funext x; show (if x = G then iv V else iv (lv x)) = iv (if x = G then V else lv x); split <;> rfl
    rw [this]
  have kd : vIx X.kinds (iv s) = .ok (.str (kS (X.T s k).n)) := by
    rcases h with ⟨rfl, _⟩ | ⟨rfl, _⟩ <;> rfl
  let st := stOf (X.T s k) V
  obtain ⟨t0', t1', w4, ht0, ht1⟩ : ∃ t0' t1', sAtAppN (.ix (.s 10) (eVar 11)) (eCall f__law_state (aCons (e2 vIx (eVar 4) (eVar 11)) (aCons (e2 vIx (eVar 8) (eVar 20)) aNil))) (X.W (kvsN ks' fun x => iv (lv' x)) os t0 t1 s1 (.sh (iv s)) s15 (.sh (iv k)) s17 (.sh (.lst [iv (X.D (1 + 5 * s + k)).1, iv (X.D (1 + 5 * s + k)).2])) (.sh (iv G)) s21) = .next (X.W (kvsN ks' fun x => iv (lv' x)) os t0' t1' s1 (.sh (iv s)) s15 (.sh (iv k)) s17 (.sh (.lst [iv (X.D (1 + 5 * s + k)).1, iv (X.D (1 + 5 * s + k)).2])) (.sh (iv G)) s21) ∧ t0' = X.sts 0 (done ++ [(s, k)]) ∧ t1' = X.sts 1 (done ++ [(s, k)]) := by
    have hso := state_ok (X.T s k) V
    have hx : vIx (.dct (kvsN ks' fun x => iv (lv' x))) (iv G) = .ok (iv V) := by
      rw [ix_kvsN _ (show G ∈ ks ++ [G] by simp)]
      show Res.ok (iv (if G = G then V else lv G)) = _
      rw [if_pos rfl]
    have ev : ∀ a b : List (Option Bool), (eCall f__law_state (aCons (e2 vIx (eVar 4) (eVar 11)) (aCons (e2 vIx (eVar 8) (eVar 20)) aNil))) (X.W (kvsN ks' fun x => iv (lv' x)) os a b s1 (.sh (iv s)) s15 (.sh (iv k)) s17 (.sh (.lst [iv (X.D (1 + 5 * s + k)).1, iv (X.D (1 + 5 * s + k)).2])) (.sh (iv G)) s21) = .ok (.str (stS st)) := by
      intro a b
      show (((vIx X.kinds (iv s)).bind fun x => (((vIx (.dct (kvsN ks' fun x => iv (lv' x))) (iv G)).bind fun y => (Res.ok ([] : List Val)).bind fun ys => Res.ok (y :: ys))).bind fun xs => Res.ok (x :: xs)).bind fun xs => (f__law_state xs).res) = _
      rw [kd, hx]
      show (f__law_state [.str (kS (X.T s k).n), iv V]).res = _
      rw [hso]
      rfl
    have sts_snoc : ∀ j, X.sts j (done ++ [(s, k)]) = if s = j then X.sts j done ++ [st] else X.sts j done := by
      intro j
      unfold sts
      rw [List.filter_append, List.map_append]
      by_cases hj : s = j
      · rw [if_pos hj, List.filter_cons, if_pos (by simpa using hj)]; rfl
      · rw [if_neg hj, List.filter_cons, if_neg (by simpa using hj)]; exact List.append_nil _
    have tl : t0.length ≤ 20 ∧ t1.length ≤ 20 := by
      have sl : ∀ j, (X.sts j done).length ≤ done.length := fun j => by
        unfold sts
        rw [List.length_map]
        exact List.length_filter_le _ _
      have h1 := sl 0
      have h2 := sl 1
      rw [← I.s0] at h1
      rw [← I.s1] at h2
      omega
    have strsT_snoc : ∀ l : List (Option Bool), Tr.l ((l.map fun o => Tr.v (.str (stS o))) ++ [.v (.str (stS st))]) = strsT (l ++ [st]) := fun l => by unfold strsT; rw [List.map_append]; rfl
    rcases h with ⟨rfl, hk⟩ | ⟨rfl, hk⟩
    · refine ⟨t0 ++ [st], t1, ?_, by rw [sts_snoc, if_pos rfl, ← I.s0], by rw [sts_snoc, if_neg (by omega), ← I.s1]⟩
      have hp : plAt (.ix (.s 10) (eVar 11)) (X.W (kvsN ks' fun x => iv (lv' x)) os t0 t1 s1 (.sh (iv 0)) s15 (.sh (iv k)) s17 (.sh (.lst [iv (X.D (1 + 5 * 0 + k)).1, iv (X.D (1 + 5 * 0 + k)).2])) (.sh (iv G)) s21) = .ok (10, [.ix 0], strsT t0) := rfl
      unfold sAtAppN
      rw [hp]
      simp only [Res.nx_ok, Res.flow_ok, strsT]
      rw [ev]
      simp only [Res.flow_ok]
      rw [if_pos ⟨by rw [List.length_map]; omega, rfl⟩, strsT_snoc]
      rfl
    · refine ⟨t0, t1 ++ [st], ?_, by rw [sts_snoc, if_neg (by omega), ← I.s0], by rw [sts_snoc, if_pos rfl, ← I.s1]⟩
      have hp : plAt (.ix (.s 10) (eVar 11)) (X.W (kvsN ks' fun x => iv (lv' x)) os t0 t1 s1 (.sh (iv 1)) s15 (.sh (iv k)) s17 (.sh (.lst [iv (X.D (1 + 5 * 1 + k)).1, iv (X.D (1 + 5 * 1 + k)).2])) (.sh (iv G)) s21) = .ok (10, [.ix 1], strsT t1) := rfl
      unfold sAtAppN
      rw [hp]
      simp only [Res.nx_ok, Res.flow_ok, strsT]
      rw [ev]
      simp only [Res.flow_ok]
      rw [if_pos ⟨by rw [List.length_map]; omega, rfl⟩, strsT_snoc]
      rfl
  -- the ends
  let Q : Slot → Env := fun s21 => X.W (kvsN ks' fun x => iv (lv' x)) os t0' t1' s1 (.sh (iv s)) s15 (.sh (iv k)) s17 (.sh (.lst [iv (X.D (1 + 5 * s + k)).1, iv (X.D (1 + 5 * s + k)).2])) (.sh (iv G)) s21
  have g2 : vIx (.lst (X.nums.map iv)) (.int 2) = .ok (iv (X.num 2)) := nums_get (p := 2) (by unfold n; omega)
  have gr : vIx (.lst (X.nums.map iv)) (iv X.r) = .ok (iv (X.num X.r)) := nums_get (by unfold n; omega)
  have w5 : sOwn 21 (eArgs vLst (aCons (e2 vIx (eVar 7) (eC (.int 2))) (aCons (e2 vIx (eVar 7) (eArgs vInt (aCons (eVar 3) aNil))) aNil))) (Q s21) = .next (Q (.oL [iv (X.num 2), iv (X.num X.r)])) := by
    have ev : (eArgs vLst (aCons (e2 vIx (eVar 7) (eC (.int 2))) (aCons (e2 vIx (eVar 7) (eArgs vInt (aCons (eVar 3) aNil))) aNil))) (hide (Q s21)) = .ok (.lst [iv (X.num 2), iv (X.num X.r)]) := by
      show ((((vIx (.lst (X.nums.map iv)) (.int 2))).bind fun x => (((vIx (.lst (X.nums.map iv)) (iv X.r)).bind fun y => (Res.ok ([] : List Val)).bind fun ys => Res.ok (y :: ys))).bind fun xs => Res.ok (x :: xs)).bind vLst) = _
      rw [g2, gr]
      rfl
    unfold sOwn
    rw [ev]
    rfl
  have w6 : sIf (bVal (e2 vEq (eVar 11) (eC (.int 1)))) (sOn 21 (sItem 21 (eC (.int 1)) (e2 vIx (eVar 7) (e2 vSub (eC (.int 1)) (eVar 3))))) (sIf (bVal (e2 vGt (e2 vIx (eVar 5) (eC (.int 0))) (eC (.int 1)))) (sOwn 21 (eArgs vLst (aCons (e2 vIx (eVar 7) (e2 vIx (eArgs vLst (aCons (eC (.int 2)) (aCons (e2 vAdd (eC (.int 2)) (eVar 16)) aNil))) (eArgs vInt (aCons (e2 vGt (eVar 16) (eC (.int 0))) aNil)))) (aCons (e2 vIx (eVar 7) (e2 vIx (eArgs vLst (aCons (e2 vAdd (eC (.int 3)) (eVar 16)) (aCons (eVar 3) aNil))) (eArgs vInt (aCons (e2 vEq (eVar 16) (e2 vSub (e2 vIx (eVar 5) (eC (.int 0))) (eC (.int 1)))) aNil)))) aNil)))) sNext) (Q (.oL [iv (X.num 2), iv (X.num X.r)])) = .next (Q (.oL [iv (X.T s k).l, iv (X.T s k).r])) := by
    rcases h with ⟨rfl, hk⟩ | ⟨rfl, hk⟩
    · have tf : (bVal (e2 vEq (eVar 11) (eC (.int 1)))) (Q (.oL [iv (X.num 2), iv (X.num X.r)])) = .ok false := rfl
      unfold sIf
      rw [tf]
      simp only [Res.flow_ok, cond_false]
      have tg : (bVal (e2 vGt (e2 vIx (eVar 5) (eC (.int 0))) (eC (.int 1)))) (Q (.oL [iv (X.num 2), iv (X.num X.r)])) = .ok (decide (1 < X.a)) := by
        show Res.ok (decide ((1 : Int) < (X.a : Int))) = _
        congr 1
        rw [Bool.eq_iff_iff, decide_eq_true_iff, decide_eq_true_iff]
        omega
      rw [tg]
      simp only [Res.flow_ok]
      by_cases ha : 1 < X.a
      · rw [decide_eq_true ha]
        simp only [cond_true]
        have gl1 : vIx (.lst (X.nums.map iv)) (.int ((2 + k : Nat) : Int)) = .ok (iv (X.num (2 + k))) := nums_get (by unfold n; omega)
        have gq : vIx (.lst (X.nums.map iv)) (iv (X.P.q k)) = .ok (iv (X.num (X.P.q k))) := nums_get (by unfold CS.q n; split <;> (show _ < 3 + 2 * X.a + X.b) <;> (try omega) <;> (show X.r < _; omega))
        have i1 : vIx (.lst [.int 2, .int (2 + (k : Int))]) (.int (b2i (decide ((0 : Int) < (k : Int))))) = .ok (.int ((2 + k : Nat) : Int)) := by
          by_cases hk0 : k = 0
          · subst hk0; rfl
          · rw [decide_eq_true (show (0 : Int) < (k : Int) by omega)]
            show Res.ok (Val.int (2 + (k : Int))) = _
            congr 2
        have i2 : vIx (.lst [.int (3 + (k : Int)), iv X.r]) (.int (b2i ((k : Int) == (X.a : Int) - 1))) = .ok (iv (X.P.q k)) := by
          show _ = Res.ok (Val.int (((if k + 1 = X.a then X.r else 3 + k) : Nat) : Int))
          by_cases hka : k + 1 = X.a
          · have : ((k : Int) == (X.a : Int) - 1) = true := by rw [beq_iff_eq]; omega
            rw [this, if_pos hka]
            rfl
          · have : ((k : Int) == (X.a : Int) - 1) = false := by rw [beq_eq_false_iff_ne]; omega
            rw [this, if_neg hka]
            show Res.ok (Val.int (3 + (k : Int))) = _
            congr 2
        have ev : (eArgs vLst (aCons (e2 vIx (eVar 7) (e2 vIx (eArgs vLst (aCons (eC (.int 2)) (aCons (e2 vAdd (eC (.int 2)) (eVar 16)) aNil))) (eArgs vInt (aCons (e2 vGt (eVar 16) (eC (.int 0))) aNil)))) (aCons (e2 vIx (eVar 7) (e2 vIx (eArgs vLst (aCons (e2 vAdd (eC (.int 3)) (eVar 16)) (aCons (eVar 3) aNil))) (eArgs vInt (aCons (e2 vEq (eVar 16) (e2 vSub (e2 vIx (eVar 5) (eC (.int 0))) (eC (.int 1)))) aNil)))) aNil))) (hide (Q (.oL [iv (X.num 2), iv (X.num X.r)]))) = .ok (.lst [iv (X.num (2 + k)), iv (X.num (X.P.q k))]) := by
          show ((((vIx (.lst [.int 2, .int (2 + (k : Int))]) (.int (b2i (decide ((0 : Int) < (k : Int)))))).bind fun y => vIx (.lst (X.nums.map iv)) y).bind fun x => (((((vIx (.lst [.int (3 + (k : Int)), iv X.r]) (.int (b2i ((k : Int) == (X.a : Int) - 1)))).bind fun y => vIx (.lst (X.nums.map iv)) y)).bind fun y => (Res.ok ([] : List Val)).bind fun ys => Res.ok (y :: ys))).bind fun xs => Res.ok (x :: xs)).bind vLst) = _
          rw [i1, i2]
          simp only [Res.bind_ok]
          rw [gl1, gq]
          rfl
        unfold sOwn
        rw [ev]
        rfl
      · rw [decide_eq_false ha]
        simp only [cond_false, sNext]
        have hk0 : k = 0 := by omega
        have : (X.T 0 k).l = X.num 2 := by subst hk0; rfl
        have h2 : (X.T 0 k).r = X.num X.r := by
          subst hk0
          show X.num (X.P.q 0) = _
          have : X.P.q 0 = X.r := by unfold CS.q; rw [if_pos (show 0 + 1 = X.P.a by show 0 + 1 = X.a; omega)]; rfl
          rw [this]
        rw [this, h2]
    · have tf : (bVal (e2 vEq (eVar 11) (eC (.int 1)))) (Q (.oL [iv (X.num 2), iv (X.num X.r)])) = .ok true := rfl
      unfold sIf
      rw [tf]
      simp only [Res.flow_ok, cond_true]
      have go : vIx (.lst (X.nums.map iv)) (.int (1 - (X.r : Int))) = .ok (iv (X.num (1 - X.r))) := by
        have : (1 : Int) - (X.r : Int) = ((1 - X.r : Nat) : Int) := by omega
        rw [this]
        exact nums_get (by unfold n; omega)
      show sItem 21 (eC (.int 1)) (e2 vIx (eVar 7) (e2 vSub (eC (.int 1)) (eVar 3))) (Q (.oL [iv (X.num 2), iv (X.num X.r)])) = _
      unfold sItem
      show ((vIx (.lst (X.nums.map iv)) (.int (1 - (X.r : Int)))).flow _ _) = _
      rw [go]
      rfl
  have w7 : ∃ e1 e2', sIf (bVal (e2 vEq (e2 vIx (eVar 19) (eC (.int 1))) (eC (.int 1)))) (sReverse 21) sNext (Q (.oL [iv (X.T s k).l, iv (X.T s k).r])) = .next (Q (.oL [iv e1, iv e2'])) ∧ ((e1 = (X.T s k).l ∧ e2' = (X.T s k).r) ∨ (e1 = (X.T s k).r ∧ e2' = (X.T s k).l)) := by
    have tt : (bVal (e2 vEq (e2 vIx (eVar 19) (eC (.int 1))) (eC (.int 1)))) (Q (.oL [iv (X.T s k).l, iv (X.T s k).r])) = .ok (((X.D (1 + 5 * s + k)).2 : Int) == 1) := rfl
    unfold sIf
    rw [tt]
    cases (((X.D (1 + 5 * s + k)).2 : Int) == 1) with
    | true => exact ⟨_, _, rfl, .inr ⟨rfl, rfl⟩⟩
    | false => exact ⟨_, _, rfl, .inl ⟨rfl, rfl⟩⟩
  obtain ⟨e1, e2', w7, hends⟩ := w7
  have hG : (X.T s k).g = G := X.T_g h
  let U : Tn := ⟨(X.T s k).n, G, e1, e2'⟩
  have w8 : sFreeze 21 (Q (.oL [iv e1, iv e2'])) = .next (Q (.sh (.lst [iv e1, iv e2']))) := rfl
  have w9 : sAppend 9 (eArgs vTup (aCons (e2 vIx (eVar 4) (eVar 11)) (aCons (eVar 20) (aCons (e2 vIx (eVar 21) (eC (.int 0))) (aCons (e2 vIx (eVar 21) (eC (.int 1))) aNil))))) (Q (.sh (.lst [iv e1, iv e2']))) = .next (X.W (kvsN ks' fun x => iv (lv' x)) (os ++ [U]) t0' t1' s1 (.sh (iv s)) s15 (.sh (iv k)) s17 (.sh (.lst [iv (X.D (1 + 5 * s + k)).1, iv (X.D (1 + 5 * s + k)).2])) (.sh (iv G)) (.sh (.lst [iv e1, iv e2']))) := by
    show ((((vIx X.kinds (iv s)).bind fun x => Res.ok [x, iv G, iv e1, iv e2']).bind vTup).flow _ fun x => if (os.map Tn.v).length < 16777216 then Flow.next ((Q (.sh (.lst [iv e1, iv e2']))).set 9 (.oL (os.map Tn.v ++ [x]))) else .bad) = _
    rw [kd]
    show (if (os.map Tn.v).length < 16777216 then Flow.next ((Q (.sh (.lst [iv e1, iv e2']))).set 9 (.oL (os.map Tn.v ++ [.tup [.str (kS (X.T s k).n), iv G, iv e1, iv e2']]))) else .bad) = _
    rw [if_pos (by rw [List.length_map, I.len]; omega)]
    have : os.map Tn.v ++ [.tup [.str (kS (X.T s k).n), iv G, iv e1, iv e2']] = (os ++ [U]).map Tn.v := by rw [List.map_append]; rfl
    rw [this]
    rfl
  refine ⟨ks', lv', os ++ [U], t0', t1', .sh (.lst [iv (X.D (1 + 5 * s + k)).1, iv (X.D (1 + 5 * s + k)).2]), .sh (iv G), .sh (.lst [iv e1, iv e2']), ?_, ?_⟩
  · unfold m_law_ka_L sSeq
    rw [w1]
    show m_law_ka_1 _ = _
    unfold m_law_ka_1 sSeq
    rw [w2]
    show m_law_ka_2 _ = _
    unfold m_law_ka_2 sSeq
    rw [w3]
    show m_law_ka_3 _ = _
    unfold m_law_ka_3 sSeq
    rw [w4]
    show m_law_ka_4 (Q s21) = _
    unfold m_law_ka_4 sSeq
    rw [w5]
    show m_law_ka_5 _ = _
    unfold m_law_ka_5 sSeq
    rw [w6]
    show m_law_ka_6 _ = _
    unfold m_law_ka_6 sSeq
    rw [w7]
    show m_law_ka_7 _ = _
    unfold m_law_ka_7 sSeq
    rw [w8]
    show m_law_ka_8 _ = _
    unfold m_law_ka_8
    exact w9
  · have hrG : X.num X.r ≠ G := fun z => nk (by show G ∈ [X.num X.r, X.num (1 - X.r)] ++ _; rw [← z]; simp)
    have hoG : X.num (1 - X.r) ≠ G := fun z => nk (by show G ∈ [X.num X.r, X.num (1 - X.r)] ++ _; rw [← z]; simp)
    refine ⟨?_, ?_, ?_, fun p hp => ?_, ⟨fun t ht => ?_, fun t ht => ?_⟩, ?_, ht0, ht1⟩
    · show ks ++ [G] = _
      rw [key]
      unfold ksOf
      rw [List.map_append, List.append_assoc]
      rfl
    · show (if X.num X.r = G then V else lv (X.num X.r)) = _
      rw [if_neg hrG]; exact I.lr
    · show (if X.num (1 - X.r) = G then V else lv (X.num (1 - X.r))) = _
      rw [if_neg hoG]; exact I.lo
    · show (if X.num (X.gp p.1 p.2) = G then V else lv (X.num (X.gp p.1 p.2))) = _
      rcases List.mem_append.mp hp with hp | hp
      · rw [if_neg (fun z => nk (by show G ∈ _ ++ done.map fun p => X.num (X.gp p.1 p.2); rw [← z]; exact List.mem_append_right _ (List.mem_map.mpr ⟨p, hp, rfl⟩)))]
        exact I.lg p hp
      · rw [List.mem_singleton.mp hp, if_pos rfl]
    · rw [List.map_append] at ht
      rcases List.mem_append.mp ht with ht | ht
      · obtain ⟨y, hy, hw⟩ := I.tw.1 t ht
        exact ⟨y, List.mem_append_left _ hy, hw⟩
      · rw [List.map_cons, List.map_nil, List.mem_singleton] at ht
        subst ht
        exact ⟨U, by simp, rfl, hG.symm, hends⟩
    · rcases List.mem_append.mp ht with ht | ht
      · obtain ⟨y, hy, hw⟩ := I.tw.2 t ht
        exact ⟨y, by rw [List.map_append]; exact List.mem_append_left _ hy, hw⟩
      · rw [List.mem_singleton.mp ht]
        exact ⟨X.T s k, by rw [List.map_append]; exact List.mem_append_right _ (by simp), rfl, hG.symm, hends⟩
    · rw [List.length_append, List.length_append, I.len]; rfl
end Dr
end K55
end Vm
end

noncomputable section
namespace Vm
namespace K55
open PySem
open Lib
namespace Dr
variable {X : Dr}
def allP (X : Dr) : List Pr := (List.range X.a).map (fun k => (0, k)) ++ (List.range X.b).map fun k => (1, k)
theorem all_in : ∀ p ∈ X.allP, X.In p.1 p.2 := by
  intro p hp
  rcases List.mem_append.mp hp with hp | hp
  · obtain ⟨k, hk, rfl⟩ := List.mem_map.mp hp
    exact .inl ⟨rfl, List.mem_range.mp hk⟩
  · obtain ⟨k, hk, rfl⟩ := List.mem_map.mp hp
    exact .inr ⟨rfl, List.mem_range.mp hk⟩
theorem all_T : (X.allP.map fun p => X.T p.1 p.2) = X.P.ts := by
  unfold allP CS.ts
  rw [List.map_append, List.map_map, List.map_map]
  rfl
theorem all_s0 : X.sts 0 X.allP = (List.range X.a).map X.P.c := by
  unfold sts allP
  rw [List.filter_append, List.map_append]
  have h1 : ((List.range X.a).map fun k => ((0, k) : Pr)).filter (fun p => p.1 == 0) = (List.range X.a).map fun k => (0, k) := by
    rw [List.filter_eq_self]
    intro p hp
    obtain ⟨k, _, rfl⟩ := List.mem_map.mp hp
    rfl
  have h2 : ((List.range X.b).map fun k => ((1, k) : Pr)).filter (fun p => p.1 == 0) = [] := by
    rw [List.filter_eq_nil_iff]
    intro p hp
    obtain ⟨k, _, rfl⟩ := List.mem_map.mp hp
    simp
  rw [h1, h2, List.map_map, List.map_nil, List.append_nil]
  rfl
theorem all_s1 : X.sts 1 X.allP = (List.range X.b).map X.P.s := by
  unfold sts allP
  rw [List.filter_append, List.map_append]
  have h1 : ((List.range X.a).map fun k => ((0, k) : Pr)).filter (fun p => p.1 == 1) = [] := by
    rw [List.filter_eq_nil_iff]
    intro p hp
    obtain ⟨k, _, rfl⟩ := List.mem_map.mp hp
    simp
  have h2 : ((List.range X.b).map fun k => ((1, k) : Pr)).filter (fun p => p.1 == 1) = (List.range X.b).map fun k => (1, k) := by
    rw [List.filter_eq_self]
    intro p hp
    obtain ⟨k, _, rfl⟩ := List.mem_map.mp hp
    rfl
  rw [h1, h2, List.map_map, List.map_nil, List.nil_append]
  rfl
theorem csOk (g : X.Good) {ks : List Nat} {lv : Nat → Nat} {os : List Tn} {t0 t1 : List (Option Bool)} (I : Inv X X.allP ks lv os t0 t1) : X.P.Ok ks lv := by
  have r1 := g.r1
  have a1 := g.a1
  refine ⟨r1, a1, fun p _ => num_lt g p, fun p q hp hq => num_inj g hp hq, fun p hp => ?_, I.lr, I.lo, fun k hk => ?_, fun k hk => ?_⟩
  · show X.num p ∈ ks ↔ (p < 2 ∨ 3 + X.a ≤ p)
    have hp : p < X.n := hp
    rw [I.ksE]
    unfold ksOf
    rw [List.mem_append]
    constructor
    · rintro (z | z)
      · simp only [List.mem_cons, List.not_mem_nil, or_false] at z
        rcases z with z | z
        · have := num_inj g hp (by unfold n; omega) z; omega
        · have := num_inj g hp (by unfold n; omega) z; omega
      · obtain ⟨q, hq, e⟩ := List.mem_map.mp z
        have hl := X.gp_lt (all_in q hq)
        have := num_inj g hl.2 hp e
        omega
    · intro z
      by_cases h2 : p < 2
      · refine .inl ?_
        have : p = X.r ∨ p = 1 - X.r := by omega
        rcases this with rfl | rfl <;> simp
      · refine .inr (List.mem_map.mpr ?_)
        have h3 : 3 + X.a ≤ p := by omega
        unfold n at hp
        by_cases h4 : p < 3 + 2 * X.a
        · refine ⟨(0, p - 3 - X.a), List.mem_append_left _ (List.mem_map.mpr ⟨p - 3 - X.a, List.mem_range.mpr (by omega), rfl⟩), ?_⟩
          congr 1
          show 3 + X.a * (1 + 0) + (p - 3 - X.a) = p
          omega
        · refine ⟨(1, p - 3 - 2 * X.a), List.mem_append_right _ (List.mem_map.mpr ⟨p - 3 - 2 * X.a, List.mem_range.mpr (by omega), rfl⟩), ?_⟩
          congr 1
          show 3 + X.a * (1 + 1) + (p - 3 - 2 * X.a) = p
          omega
  · have hk : k < X.a := hk
    have := I.lg (0, k) (List.mem_append_left _ (List.mem_map.mpr ⟨k, List.mem_range.mpr hk, rfl⟩))
    show lv (X.num (3 + X.a + k)) = X.P.v0 k
    have e : X.gp 0 k = 3 + X.a + k := by unfold gp; omega
    rw [← e]
    exact this
  · have hk : k < X.b := hk
    have := I.lg (1, k) (List.mem_append_right _ (List.mem_map.mpr ⟨k, List.mem_range.mpr hk, rfl⟩))
    show lv (X.num (3 + 2 * X.a + k)) = X.P.v1 k
    have e : X.gp 1 k = 3 + 2 * X.a + k := by unfold gp; omega
    rw [← e]
    exact this
theorem ks_facts (g : X.Good) {ks : List Nat} {lv : Nat → Nat} {os : List Tn} {t0 t1 : List (Option Bool)} (I : Inv X X.allP ks lv os t0 t1) : ∀ x ∈ ks, x < X.n ∧ (lv x = 0 ∨ lv x = 1 ∨ lv x = 3) := by
  have r1 := g.r1
  intro x hx
  rw [I.ksE] at hx
  unfold ksOf at hx
  rcases List.mem_append.mp hx with hx | hx
  · simp only [List.mem_cons, List.not_mem_nil, or_false] at hx
    rcases hx with rfl | rfl
    · exact ⟨num_lt g _, by rw [I.lr]; omega⟩
    · exact ⟨num_lt g _, by rw [I.lo]; omega⟩
  · obtain ⟨q, hq, rfl⟩ := List.mem_map.mp hx
    refine ⟨num_lt g _, ?_⟩
    rw [I.lg q hq, X.w_eq (all_in q hq)]
    obtain ⟨_, _, _, h, _⟩ := g.dr (1 + 5 * q.1 + q.2)
    exact v3_ok h
theorem inner {N : Env → Prop} {R : Val → Prop} {B T : Env → Prop} (g : X.Good) (s cnt : Nat) (hcnt : ∀ k, k < cnt → X.In s k) (hc5 : cnt ≤ 5) (done0 : List Pr) (hin0 : ∀ p ∈ done0, X.In p.1 p.2) (hnot : ∀ k, (s, k) ∉ done0) (hl0 : done0.length ≤ 10) {ks : List Nat} {lv : Nat → Nat} {os : List Tn} {t0 t1 : List (Option Bool)} (I : Inv X done0 ks lv os t0 t1) (s1 s15 s16 s17 s19 s20 s21 : Slot) (hsz : vIx (.lst [iv X.a, iv X.b]) (iv s) = .ok (iv cnt))
    (hN : ∀ (ks : List Nat) (lv : Nat → Nat) (os : List Tn) (t0 t1 : List (Option Bool)) (s16 s19 s20 s21 : Slot), Inv X (done0 ++ (List.range cnt).map fun k => (s, k)) ks lv os t0 t1 → N (X.W (kvsN ks fun x => iv (lv x)) os t0 t1 s1 (.sh (iv s)) s15 s16 s17 s19 s20 s21)) :
    Vm.Ok (m_law_ka_F (X.W (kvsN ks fun x => iv (lv x)) os t0 t1 s1 (.sh (iv s)) s15 s16 s17 s19 s20 s21)) N R B T := by
  unfold m_law_ka_F
  have hi : (e2 vIx (eVar 5) (eVar 11)) (hide (X.W (kvsN ks fun x => iv (lv x)) os t0 t1 s1 (.sh (iv s)) s15 s16 s17 s19 s20 s21)) = .ok (.int cnt) := hsz
  refine Ok_for (xs := rangeL 0 cnt) (range1_ok hi (by omega)) ?_
  refine forL_ok _ (fun i env => ∃ (ks : List Nat) (lv : Nat → Nat) (os : List Tn) (t0 t1 : List (Option Bool)) (s16 s19 s20 s21 : Slot), env = X.W (kvsN ks fun x => iv (lv x)) os t0 t1 s1 (.sh (iv s)) s15 s16 s17 s19 s20 s21 ∧ Inv X (done0 ++ (List.range i).map fun k => (s, k)) ks lv os t0 t1) _ ⟨ks, lv, os, t0, t1, s16, s19, s20, s21, rfl, by rw [List.range_zero, List.map_nil, List.append_nil]; exact I⟩ ?_ ?_
  · rintro i hi env ⟨ks, lv, os, t0, t1, s16, s19, s20, s21, rfl, I⟩
    rw [range_len] at hi
    rw [range_get, Int.zero_add]
    refine ⟨X.W (kvsN ks fun x => iv (lv x)) os t0 t1 s1 (.sh (iv s)) s15 (.sh (iv i)) s17 s19 s20 s21, rfl, ?_⟩
    obtain ⟨ks', lv', os', t0', t1', u19, u20, u21, e, I'⟩ := step g I (fun p hp => by
      rcases List.mem_append.mp hp with hp | hp
      · exact hin0 p hp
      · obtain ⟨k, hk, rfl⟩ := List.mem_map.mp hp
        exact hcnt k (by have := List.mem_range.mp hk; omega)) (by rw [List.length_append, List.length_map, List.length_range]; omega) (hcnt i hi) (fun z => by
      rcases List.mem_append.mp z with z | z
      · exact hnot i z
      · obtain ⟨k, hk, e⟩ := List.mem_map.mp z
        injection e with _ e
        have := List.mem_range.mp hk
        omega) s1 s15 s17 s19 s20 s21
    rw [e, Ok_next]
    refine ⟨ks', lv', os', t0', t1', _, u19, u20, u21, rfl, ?_⟩
    rw [List.range_succ, List.map_append, ← List.append_assoc]
    exact I'
  · rintro env ⟨ks, lv, os, t0, t1, s16, s19, s20, s21, rfl, I⟩
    rw [range_len] at I
    exact hN ks lv os t0 t1 s16 s19 s20 s21 I
end Dr
theorem due_eq (P : CS) : dueO (if ((List.range P.a).map P.c).all notOff then (if ((List.range P.a).map P.c).all isOn then some true else none) else some false) (if ((List.range P.b).map P.s).any isOn then some true else if ((List.range P.b).map P.s).any notOff then none else some false) P.r = P.due := by
  have c1 : ∀ ok, ((List.range P.a).map P.c).all ok = P.chB ok := fun ok => by unfold CS.chB; rw [List.all_map]; rfl
  have c2 : ∀ ok, ((List.range P.b).map P.s).any ok = P.stB ok := fun ok => by unfold CS.stB; rw [List.any_map]; rfl
  have i1 : P.chB isOn = true → P.chB notOff = true := fun q => by
    unfold CS.chB at q ⊢
    rw [List.all_eq_true] at q ⊢
    exact fun k hk => on_notOff (q k hk)
  have i2 : P.stB isOn = true → P.stB notOff = true := fun q => by
    unfold CS.stB at q ⊢
    rw [List.any_eq_true] at q ⊢
    obtain ⟨k, hk, q⟩ := q
    exact ⟨k, hk, on_notOff q⟩
  rw [c1, c1, c2, c2]
  unfold CS.due dueO
  revert i1 i2
  cases P.chB isOn <;> cases P.stB isOn <;> cases P.chB notOff <;> cases P.stB notOff <;> simp
theorem TwL_rev {ts us : List Tn} (h : TwL ts us) : TwL ts us.reverse := ⟨fun t ht => by
  obtain ⟨t', h1, h2⟩ := h.1 t ht
  exact ⟨t', List.mem_reverse.mpr h1, h2⟩, fun t ht => h.2 t (List.mem_reverse.mp ht)⟩
theorem law_pure (ns : List Int) (hns : ns.length ≤ 63) : f_law [.lst (ns.map .int)] = .ret (.bl true) := by
  refine defn_ret rfl ?_
  obtain ⟨z, ez⟩ := cell_k ns 0
  have ez : f__law_cell [.lst (ns.map .int), .int 0] = .ret (.int z) := ez
  obtain ⟨ps, ep, hp⟩ := parts_k z [2, 5, 6, 20, 2, 2] (by
    intro x hx
    simp only [List.mem_cons, List.not_mem_nil, or_false] at hx
    omega) (by show 6 ≤ 100; omega)
  obtain ⟨p0, _, rfl, h0, hp⟩ := hp.cons
  obtain ⟨p1, _, rfl, h1, hp⟩ := hp.cons
  obtain ⟨p2, _, rfl, h2, hp⟩ := hp.cons
  obtain ⟨p3, _, rfl, h3, hp⟩ := hp.cons
  obtain ⟨p4, _, rfl, h4, hp⟩ := hp.cons
  obtain ⟨p5, _, rfl, h5, hp⟩ := hp.cons
  obtain rfl := hp.nil'
  simp only [List.map_cons, List.map_nil] at ep
  obtain ⟨r, rfl⟩ := Int.eq_ofNat_of_zero_le h0.1
  obtain ⟨q1, rfl⟩ := Int.eq_ofNat_of_zero_le h1.1
  obtain ⟨b, rfl⟩ := Int.eq_ofNat_of_zero_le h2.1
  obtain ⟨turn, rfl⟩ := Int.eq_ofNat_of_zero_le h3.1
  obtain ⟨down, rfl⟩ := Int.eq_ofNat_of_zero_le h4.1
  obtain ⟨rev, rfl⟩ := Int.eq_ofNat_of_zero_le h5.1
  have dr : ∀ m : Nat, ∃ d : Nat × Nat, ∃ z : Int, f__law_cell [.lst (ns.map .int), .int (m : Int)] = .ret (.int z) ∧ f__law_parts [.int z, .lst [.int 3, .int 2]] = .ret (.lst [iv d.1, iv d.2]) ∧ d.1 < 3 ∧ d.2 < 2 := by
    intro m
    obtain ⟨z, ez⟩ := cell_k ns m
    obtain ⟨qs, eq, hq⟩ := parts_k z [3, 2] (by
      intro x hx
      simp only [List.mem_cons, List.not_mem_nil, or_false] at hx
      omega) (by show 2 ≤ 100; omega)
    obtain ⟨u0, _, rfl, hu0, hq⟩ := hq.cons
    obtain ⟨u1, _, rfl, hu1, hq⟩ := hq.cons
    obtain rfl := hq.nil'
    obtain ⟨d0, rfl⟩ := Int.eq_ofNat_of_zero_le hu0.1
    obtain ⟨d1, rfl⟩ := Int.eq_ofNat_of_zero_le hu1.1
    exact ⟨(d0, d1), z, ez, eq, by show d0 < 3; omega, by show d1 < 2; omega⟩
  obtain ⟨D, hD⟩ := Classical.skolem.mp dr
  let X : Dr := ⟨ns, r, 1 + q1, b, turn, down, rev, D⟩
  have g : X.Good := ⟨by show r ≤ 1; omega, by show 1 ≤ 1 + q1; omega, by show 1 + q1 ≤ 5; omega, by show b ≤ 5; omega, hD⟩
  have r1 : X.r ≤ 1 := g.r1
  have a1 : 1 ≤ X.a := g.a1
  have a5 : X.a ≤ 5 := g.a5
  have b5 : X.b ≤ 5 := g.b5
  have nl : X.n ≤ 18 := by unfold Dr.n; omega
  have n0 : 0 < X.n := by unfold Dr.n; omega
  have ep : f__law_parts [.int z, .lst [.int 2, .int 5, .int 6, .int 20, .int 2, .int 2]] = .ret X.parts := by
    have : X.parts = .lst [.int r, .int q1, .int b, .int turn, .int down, .int rev] := by
      show Val.lst [.int r, .int (((1 + q1 : Nat) : Int) - 1), .int b, .int turn, .int down, .int rev] = _
      have : (((1 + q1 : Nat) : Int) - 1) = q1 := by push_cast; omega
      rw [this]
    rw [this]
    exact ep
  let E0 : Slot → Slot → Slot → Env := fun s1 s15 s17 => [.sh X.script, s1, .un, .un, .un, .un, .un, .un, .un, .un, .un, .un, .un, .un, .un, s15, .un, s17, .un, .un, .un, .un]
  unfold m_law
  rw [Ok_seq]
  show Ok (m_law_a_F (E0 .un .un .un)) _ _ _ _
  unfold m_law_a_F
  refine Ok_for (xs := [true, false].map fun b => .str (kS b)) rfl ?_
  refine forL_ind (fun b => .str (kS b)) (fun _ env => ∃ s1 s15 s17, env = E0 s1 s15 s17) ?_ ?_ _ _ ⟨_, _, _, rfl⟩
  · rintro kb rest env ⟨s1, s15, s17, rfl⟩
    refine ⟨E0 (.sh (.str (kS kb))) s15 s17, rfl, ?_⟩
    unfold m_law_aa_F
    refine Ok_for (xs := (List.range 4).map iv) ((range1_ok (n := 4) rfl (by omega)).trans (by rw [rangeL_ivs])) ?_
    refine forL_ind iv (fun _ env => ∃ s15 s17, env = E0 (.sh (.str (kS kb))) s15 s17) ?_ ?_ _ _ ⟨_, _, rfl⟩
    · rintro k rest env ⟨s15, s17, rfl⟩
      refine ⟨E0 (.sh (.str (kS kb))) (.sh (iv k)) s17, rfl, ?_⟩
      have hsw := switch_state_ok kb k ⟨kb, 0, 0, 0⟩ rfl
      have hst := state_ok ⟨kb, 0, 0, 0⟩ k
      have hst : f__law_state [.str (kS kb), iv k] = _ := hst
      generalize stS (stOf ⟨kb, 0, 0, 0⟩ k) = y at hsw hst
      have w : sSet 17 (eCall f_switch_state (aCons (eVar 1) (aCons (eVar 15) aNil))) (E0 (.sh (.str (kS kb))) (.sh (iv k)) s17) = .next (E0 (.sh (.str (kS kb))) (.sh (iv k)) (.sh (.str y))) := by
        show ((f_switch_state [.str (kS kb), iv k]).res.flow _ _) = _
        have hsw : f_switch_state [.str (kS kb), iv k] = _ := hsw
        rw [hsw]
        rfl
      unfold m_law_aa_L
      rw [Ok_seq, w, Ok_next]
      refine Then.mk ?_
      unfold m_law_aa_1
      have t : (bOr (bNot (bTruth (e1 (vIsi .str) (eVar 17)))) (bVal (e2 vNe (eVar 17) (eCall f__law_state (aCons (eVar 1) (aCons (eVar 15) aNil)))))) (E0 (.sh (.str (kS kb))) (.sh (iv k)) (.sh (.str y))) = .ok false := by
        have x1 : (bNot (bTruth (e1 (vIsi .str) (eVar 17)))) (E0 (.sh (.str (kS kb))) (.sh (iv k)) (.sh (.str y))) = .ok false := rfl
        have x2 : (bVal (e2 vNe (eVar 17) (eCall f__law_state (aCons (eVar 1) (aCons (eVar 15) aNil))))) (E0 (.sh (.str (kS kb))) (.sh (iv k)) (.sh (.str y))) = .ok false := by
          show ((((f__law_state [.str (kS kb), iv k]).res).bind fun v => vNe (.str y) v).bind _) = _
          rw [hst]
          show Res.ok (!(y == y)) = _
          rw [beq_self_eq_true]
          rfl
        unfold bOr
        rw [x1, Res.bind_ok, x2]
        rfl
      unfold sIf
      rw [t]
      simp only [Res.flow_ok, cond_false, sNext, Ok_next]
      exact ⟨_, _, rfl⟩
    · rintro env ⟨s15, s17, rfl⟩
      exact ⟨_, _, _, rfl⟩
  · rintro env ⟨s1, s15, s17, rfl⟩
    refine Then.mk ?_
    unfold m_law_1
    let F : Slot → Slot → Slot → Slot → Slot → Slot → Slot → Slot → Slot → Env := fun s2 s3 s4 s5 s6 s7 s8 s9 s10 => [.sh X.script, s1, s2, s3, s4, s5, s6, s7, s8, s9, s10, .un, .un, .un, .un, s15, .un, s17, .un, .un, .un, .un]
    have w1 : sSet 2 (eCall f__law_parts (aCons (eCall f__law_cell (aCons (eVar 0) (aCons (eC (.int 0)) aNil))) (aCons (eArgs vLst (aCons (eC (.int 2)) (aCons (eC (.int 5)) (aCons (eC (.int 6)) (aCons (eC (.int 20)) (aCons (eC (.int 2)) (aCons (eC (.int 2)) aNil))))))) aNil))) (E0 s1 s15 s17) = .next (F (.sh X.parts) .un .un .un .un .un .un .un .un) := by
      have ec : (eCall f__law_cell (aCons (eVar 0) (aCons (eC (.int 0)) aNil))) (hide (E0 s1 s15 s17)) = .ok (.int z) := by
        show (f__law_cell [.lst (ns.map .int), .int 0]).res = _
        rw [ez]; rfl
      generalize eCall f__law_cell (aCons (eVar 0) (aCons (eC (.int 0)) aNil)) = MB at ec
      have ev : (eCall f__law_parts (aCons MB (aCons (eArgs vLst (aCons (eC (.int 2)) (aCons (eC (.int 5)) (aCons (eC (.int 6)) (aCons (eC (.int 20)) (aCons (eC (.int 2)) (aCons (eC (.int 2)) aNil))))))) aNil))) (hide (E0 s1 s15 s17)) = .ok X.parts := by
        unfold eCall aCons
        rw [ec]
        simp only [Res.bind_ok]
        show (f__law_parts [.int z, .lst [.int 2, .int 5, .int 6, .int 20, .int 2, .int 2]]).res = _
        rw [ep]
        rfl
      unfold sSet
      rw [ev]
      rfl
    rw [Ok_seq, w1, Ok_next]
    refine Then.mk ?_
    unfold m_law_2
    have w2 : sSet 3 (e2 vIx (eVar 2) (eC (.int 0))) (F (.sh X.parts) .un .un .un .un .un .un .un .un) = .next (F (.sh X.parts) (.sh (iv X.r)) .un .un .un .un .un .un .un) := rfl
    rw [Ok_seq, w2, Ok_next]
    refine Then.mk ?_
    unfold m_law_3
    have w3 : sSet 4 (eArgs vLst (aCons (e2 vIx (eArgs vLst (aCons (eC (.str "n")) (aCons (eC (.str "p")) aNil))) (eVar 3)) (aCons (e2 vIx (eArgs vLst (aCons (eC (.str "p")) (aCons (eC (.str "n")) aNil))) (eVar 3)) aNil))) (F (.sh X.parts) (.sh (iv X.r)) .un .un .un .un .un .un .un) = .next (F (.sh X.parts) (.sh (iv X.r)) (.sh X.kinds) .un .un .un .un .un .un) := by
      have : r = 0 ∨ r = 1 := by omega
      show (((vIx (.lst [.str "n", .str "p"]) (iv r)).bind fun x => (((vIx (.lst [.str "p", .str "n"]) (iv r)).bind fun y => (Res.ok ([] : List Val)).bind fun ys => Res.ok (y :: ys))).bind fun xs => Res.ok (x :: xs)).bind vLst).flow _ (fun x => if 4 < 22 then Flow.next ((F (.sh X.parts) (.sh (iv X.r)) .un .un .un .un .un .un .un).set 4 (.sh x)) else .bad) = Flow.next (F (.sh X.parts) (.sh (iv X.r)) (.sh (.lst [.str (kS (r == 0)), .str (kS (!(r == 0)))])) .un .un .un .un .un .un)
      rcases this with rfl | rfl <;> rfl
    rw [Ok_seq, w3, Ok_next]
    refine Then.mk ?_
    unfold m_law_4
    have w4 : sSet 5 (eArgs vLst (aCons (e2 vAdd (eC (.int 1)) (e2 vIx (eVar 2) (eC (.int 1)))) (aCons (e2 vIx (eVar 2) (eC (.int 2))) aNil))) (F (.sh X.parts) (.sh (iv X.r)) (.sh X.kinds) .un .un .un .un .un .un) = .next (F (.sh X.parts) (.sh (iv X.r)) (.sh X.kinds) (.sh (.lst [iv X.a, iv X.b])) .un .un .un .un .un) := by
      show Flow.next (F (.sh X.parts) (.sh (iv X.r)) (.sh X.kinds) (.sh (.lst [.int (1 + ((X.a : Int) - 1)), iv X.b])) .un .un .un .un .un) = _
      have : (1 : Int) + ((X.a : Int) - 1) = X.a := by omega
      rw [this]
      rfl
    rw [Ok_seq, w4, Ok_next]
    refine Then.mk ?_
    unfold m_law_5
    have w5 : sSet 6 (e2 vAdd (e2 vAdd (eC (.int 3)) (e2 vMul (eC (.int 2)) (e2 vIx (eVar 5) (eC (.int 0))))) (e2 vIx (eVar 5) (eC (.int 1)))) (F (.sh X.parts) (.sh (iv X.r)) (.sh X.kinds) (.sh (.lst [iv X.a, iv X.b])) .un .un .un .un .un) = .next (F (.sh X.parts) (.sh (iv X.r)) (.sh X.kinds) (.sh (.lst [iv X.a, iv X.b])) (.sh (iv X.n)) .un .un .un .un) := by
      have vm : vMul (.int 2) (iv X.a) = .ok (.int (2 * (X.a : Int))) := by show (if mulOk 2 (X.a : Int) = true then _ else _) = _; rw [if_pos (mulOk_l _ _ (by omega))]
      show ((((vMul (.int 2) (iv X.a)).bind fun y => vAdd (.int 3) y).bind fun x => vAdd x (iv X.b)).flow _ _) = _
      rw [vm]
      show Flow.next (F (.sh X.parts) (.sh (iv X.r)) (.sh X.kinds) (.sh (.lst [iv X.a, iv X.b])) (.sh (.int (3 + 2 * (X.a : Int) + (X.b : Int)))) .un .un .un .un) = _
      have : (3 : Int) + 2 * (X.a : Int) + (X.b : Int) = ((X.n : Nat) : Int) := by unfold Dr.n; push_cast; rfl
      rw [this]
      rfl
    rw [Ok_seq, w5, Ok_next]
    refine Then.mk ?_
    unfold m_law_6
    have w6 : sSet 7 e_law_1 (F (.sh X.parts) (.sh (iv X.r)) (.sh X.kinds) (.sh (.lst [iv X.a, iv X.b])) (.sh (iv X.n)) .un .un .un .un) = .next (F (.sh X.parts) (.sh (iv X.r)) (.sh X.kinds) (.sh (.lst [iv X.a, iv X.b])) (.sh (iv X.n)) (.sh (.lst (X.nums.map iv))) .un .un .un) := by
      have ev : e_law_1 (hide (F (.sh X.parts) (.sh (iv X.r)) (.sh X.kinds) (.sh (.lst [iv X.a, iv X.b])) (.sh (iv X.n)) .un .un .un .un)) = .ok (.lst (X.nums.map iv)) := by
        unfold e_law_1 Dr.nums
        rw [eComp_all iv (fun p => iv (X.num p)) (List.range X.n) ((range1_ok (n := X.n) rfl (by omega)).trans (by rw [rangeL_ivs])) (by rw [List.length_range]; omega)]
        · rw [List.map_map]; rfl
        · intro p _
          refine ⟨_, rfl, ?_⟩
          have := number_ok X.n X.turn X.down p n0
          show (f__law_number [iv p, iv X.n, iv X.turn, iv X.down]).res = _
          rw [this]
          rfl
      unfold sSet
      rw [ev]
      rfl
    rw [Ok_seq, w6, Ok_next]
    refine Then.mk ?_
    unfold m_law_7
    let lv0 : Nat → Nat := fun x => if x = X.num (1 - X.r) then 1 - X.r else X.r
    have hro : X.num X.r ≠ X.num (1 - X.r) := fun e => by
      have := Dr.num_inj g (by unfold Dr.n; omega) (by unfold Dr.n; omega) e
      omega
    have w7 : sOwnD 8 (eDictV [((e2 vIx (eVar 7) (eVar 3)), (eVar 3)), ((e2 vIx (eVar 7) (e2 vSub (eC (.int 1)) (eVar 3))), (e2 vSub (eC (.int 1)) (eVar 3)))]) (F (.sh X.parts) (.sh (iv X.r)) (.sh X.kinds) (.sh (.lst [iv X.a, iv X.b])) (.sh (iv X.n)) (.sh (.lst (X.nums.map iv))) .un .un .un) = .next (F (.sh X.parts) (.sh (iv X.r)) (.sh X.kinds) (.sh (.lst [iv X.a, iv X.b])) (.sh (iv X.n)) (.sh (.lst (X.nums.map iv))) (.oD (kvsN [X.num X.r, X.num (1 - X.r)] fun x => iv (lv0 x))) .un .un) := by
      have gr : vIx (.lst (X.nums.map iv)) (iv X.r) = .ok (iv (X.num X.r)) := Dr.nums_get (by unfold Dr.n; omega)
      have e1' : (1 : Int) - (X.r : Int) = ((1 - X.r : Nat) : Int) := by omega
      have go : vIx (.lst (X.nums.map iv)) (.int (1 - (X.r : Int))) = .ok (iv (X.num (1 - X.r))) := by rw [e1']; exact Dr.nums_get (by unfold Dr.n; omega)
      have ev : (eDictV [((e2 vIx (eVar 7) (eVar 3)), (eVar 3)), ((e2 vIx (eVar 7) (e2 vSub (eC (.int 1)) (eVar 3))), (e2 vSub (eC (.int 1)) (eVar 3)))]) (hide (F (.sh X.parts) (.sh (iv X.r)) (.sh X.kinds) (.sh (.lst [iv X.a, iv X.b])) (.sh (iv X.n)) (.sh (.lst (X.nums.map iv))) .un .un .un)) = .ok (.dct (kvsN [X.num X.r, X.num (1 - X.r)] fun x => iv (lv0 x))) := by
        have hpairs : (DPairsV [((e2 vIx (eVar 7) (eVar 3)), (eVar 3)), ((e2 vIx (eVar 7) (e2 vSub (eC (.int 1)) (eVar 3))), (e2 vSub (eC (.int 1)) (eVar 3)))]) (hide (F (.sh X.parts) (.sh (iv X.r)) (.sh X.kinds) (.sh (.lst [iv X.a, iv X.b])) (.sh (iv X.n)) (.sh (.lst (X.nums.map iv))) .un .un .un)) = .ok [(.inl (X.num X.r : Int), iv X.r), (.inl (X.num (1 - X.r) : Int), .int (1 - (X.r : Int)))] := by
          have a1 : (e2 vIx (eVar 7) (eVar 3)) (hide (F (.sh X.parts) (.sh (iv X.r)) (.sh X.kinds) (.sh (.lst [iv X.a, iv X.b])) (.sh (iv X.n)) (.sh (.lst (X.nums.map iv))) .un .un .un)) = .ok (iv (X.num X.r)) := gr
          have a2 : (e2 vIx (eVar 7) (e2 vSub (eC (.int 1)) (eVar 3))) (hide (F (.sh X.parts) (.sh (iv X.r)) (.sh X.kinds) (.sh (.lst [iv X.a, iv X.b])) (.sh (iv X.n)) (.sh (.lst (X.nums.map iv))) .un .un .un)) = .ok (iv (X.num (1 - X.r))) := go
          unfold DPairsV
          rw [a1]
          simp only [Res.bind_ok]
          unfold DPairsV
          rw [a2]
          rfl
        show ((DPairsV [((e2 vIx (eVar 7) (eVar 3)), (eVar 3)), ((e2 vIx (eVar 7) (e2 vSub (eC (.int 1)) (eVar 3))), (e2 vSub (eC (.int 1)) (eVar 3)))]) (hide (F (.sh X.parts) (.sh (iv X.r)) (.sh X.kinds) (.sh (.lst [iv X.a, iv X.b])) (.sh (iv X.n)) (.sh (.lst (X.nums.map iv))) .un .un .un))).bind _ = _
        rw [hpairs]
        show Res.ok (Val.dct (putV (putV (kvsN [] fun _ => iv X.r) (.inl (X.num X.r : Int)) (iv X.r)) (.inl (X.num (1 - X.r) : Int)) (.int (1 - (X.r : Int))))) = _
        rw [kvsN_put, if_neg (by simp), kvsN_put, if_neg (by simpa using fun z => hro z.symm), e1']
        congr 2
        have : updN (updN (fun _ => iv X.r) (X.num X.r) (iv X.r)) (X.num (1 - X.r)) (.int ((1 - X.r : Nat) : Int)) = fun x => iv (lv0 x) := by
          funext x
          show (if x = X.num (1 - X.r) then iv (1 - X.r) else (if x = X.num X.r then iv X.r else iv X.r)) = iv (if x = X.num (1 - X.r) then 1 - X.r else X.r)
          split
          · rfl
          · split <;> rfl
        rw [this]
        rfl
      unfold sOwnD
      rw [ev]
      rfl
    rw [Ok_seq, w7, Ok_next]
    refine Then.mk ?_
    unfold m_law_8
    have w8 : sOwn 9 (eArgs vLst aNil) (F (.sh X.parts) (.sh (iv X.r)) (.sh X.kinds) (.sh (.lst [iv X.a, iv X.b])) (.sh (iv X.n)) (.sh (.lst (X.nums.map iv))) (.oD (kvsN [X.num X.r, X.num (1 - X.r)] fun x => iv (lv0 x))) .un .un) = .next (F (.sh X.parts) (.sh (iv X.r)) (.sh X.kinds) (.sh (.lst [iv X.a, iv X.b])) (.sh (iv X.n)) (.sh (.lst (X.nums.map iv))) (.oD (kvsN [X.num X.r, X.num (1 - X.r)] fun x => iv (lv0 x))) (.oL []) .un) := rfl
    rw [Ok_seq, w8, Ok_next]
    refine Then.mk ?_
    unfold m_law_9
    have w9 : sOwnT 10 (tLstT [tNilT, tNilT]) (F (.sh X.parts) (.sh (iv X.r)) (.sh X.kinds) (.sh (.lst [iv X.a, iv X.b])) (.sh (iv X.n)) (.sh (.lst (X.nums.map iv))) (.oD (kvsN [X.num X.r, X.num (1 - X.r)] fun x => iv (lv0 x))) (.oL []) .un) = .next (X.W (kvsN [X.num X.r, X.num (1 - X.r)] fun x => iv (lv0 x)) [] [] [] s1 .un s15 .un s17 .un .un .un) := rfl
    rw [Ok_seq, w9, Ok_next]
    have I0 : Dr.Inv X [] [X.num X.r, X.num (1 - X.r)] lv0 [] [] [] := by
      refine ⟨rfl, ?_, ?_, fun p hp => (by cases hp), ⟨fun t ht => (by cases ht), fun t ht => (by cases ht)⟩, rfl, rfl, rfl⟩
      · show (if X.num X.r = X.num (1 - X.r) then 1 - X.r else X.r) = X.r
        rw [if_neg hro]
      · show (if X.num (1 - X.r) = X.num (1 - X.r) then 1 - X.r else X.r) = 1 - X.r
        rw [if_pos rfl]
    refine Then.mk ?_
    unfold m_law_10 m_law_k_F
    rw [Ok_seq]
    refine Ok_for (xs := [.int 0, .int 1]) ((range1_ok (n := 2) rfl (by omega)).trans rfl) ?_
    rw [Ok_forL_cons]
    show Ok (Flow.next (X.W (kvsN [X.num X.r, X.num (1 - X.r)] fun x => iv (lv0 x)) [] [] [] s1 (.sh (iv 0)) s15 .un s17 .un .un .un)) _ _ _ _
    rw [Ok_next]
    refine Dr.inner g 0 X.a (fun k hk => .inl ⟨rfl, hk⟩) a5 [] (fun p hp => (by cases hp)) (fun k z => (by cases z)) (by simp) I0 s1 s15 .un s17 .un .un .un rfl ?_
    intro ks1 lv1 os1 t01 t11 s16 s19 s20 s21 I1
    rw [List.nil_append] at I1
    rw [Ok_forL_cons]
    show Ok (Flow.next (X.W (kvsN ks1 fun x => iv (lv1 x)) os1 t01 t11 s1 (.sh (iv 1)) s15 s16 s17 s19 s20 s21)) _ _ _ _
    rw [Ok_next]
    refine Dr.inner g 1 X.b (fun k hk => .inr ⟨rfl, hk⟩) b5 _ (fun p hp => by
      obtain ⟨k, hk, rfl⟩ := List.mem_map.mp hp
      exact .inl ⟨rfl, List.mem_range.mp hk⟩) (fun k z => by
      obtain ⟨j, _, e⟩ := List.mem_map.mp z
      injection e with e _
      cases e) (by rw [List.length_map, List.length_range]; omega) I1 s1 s15 s16 s17 s19 s20 s21 rfl ?_
    intro ks lv os t0 t1 s16 s19 s20 s21 I
    have I : Dr.Inv X X.allP ks lv os t0 t1 := I
    rw [Ok_forL_nil]
    have cs := Dr.csOk g I
    have kf := Dr.ks_facts g I
    have tw : TwL X.P.ts os := by have := I.tw; rwa [Dr.all_T] at this
    have ol : os.length ≤ 10 := by
      rw [I.len]
      unfold Dr.allP
      rw [List.length_append, List.length_map, List.length_map, List.length_range, List.length_range]
      omega
    have kl : ks.length ≤ 20 := by
      rw [I.ksE]
      unfold Dr.ksOf Dr.allP
      rw [List.length_append, List.length_map, List.length_append, List.length_map, List.length_map, List.length_range, List.length_range]
      show 2 + (X.a + X.b) ≤ 20
      omega
    have hst0 : t0 = (List.range X.a).map X.P.c := by rw [I.s0, Dr.all_s0]
    have hst1 : t1 = (List.range X.b).map X.P.s := by rw [I.s1, Dr.all_s1]
    have ch := chain_ok t0
    have sr := star_ok t1
    have dq := due_eq X.P
    have hda : X.P.a = X.a := rfl
    have hdb : X.P.b = X.b := rfl
    rw [hda, hdb, ← hst0, ← hst1] at dq
    have du := due_ok (if t0.all notOff then (if t0.all isOn then some true else none) else some false) (if t1.any isOn then some true else if t1.any notOff then none else some false) X.r r1
    have hPr : X.P.r = X.r := rfl
    rw [hPr] at dq
    rw [dq] at du
    generalize stS (if t0.all notOff then (if t0.all isOn then some true else none) else some false) = CH at ch du
    generalize stS (if t1.any isOn then some true else if t1.any notOff then none else some false) = ST at sr du
    refine Then.mk ?_
    unfold m_law_11
    have sv : ∀ l : List (Option Bool), (Dr.strsT l).val = strsV l := fun l => by
      show Val.lst (Tr.vals (l.map fun o => Tr.v (.str (stS o)))) = Val.lst (l.map fun o => .str (stS o))
      congr 1
      induction l with
      | nil => rfl
      | cons o l ih => show Val.str (stS o) :: Tr.vals (l.map fun o => Tr.v (.str (stS o))) = _; rw [ih]; rfl
    let G : Slot → Slot → Slot → Slot → Slot → Env := fun s9 s10 s12 s13 s14 => [.sh X.script, s1, .sh X.parts, .sh (iv X.r), .sh X.kinds, .sh (.lst [iv X.a, iv X.b]), .sh (iv X.n), .sh (.lst (X.nums.map iv)), .sh (fxV ks lv), s9, s10, .sh (iv 1), s12, s13, s14, s15, s16, s17, .un, s19, s20, s21]
    have w11 : sFreezeD 8 (X.W (kvsN ks fun x => iv (lv x)) os t0 t1 s1 (.sh (iv 1)) s15 s16 s17 s19 s20 s21) = .next (G (.oL (os.map Tn.v)) (.oT (.l [Dr.strsT t0, Dr.strsT t1])) .un .un .un) := rfl
    rw [Ok_seq, w11, Ok_next]
    refine Then.mk ?_
    unfold m_law_12
    have w12 : sFreezeT 10 (G (.oL (os.map Tn.v)) (.oT (.l [Dr.strsT t0, Dr.strsT t1])) .un .un .un) = .next (G (.oL (os.map Tn.v)) (.sh (.lst [strsV t0, strsV t1])) .un .un .un) := by
      show Flow.next (G (.oL (os.map Tn.v)) (.sh (.lst [(Dr.strsT t0).val, (Dr.strsT t1).val])) .un .un .un) = _
      rw [sv, sv]
    rw [Ok_seq, w12, Ok_next]
    refine Then.mk ?_
    unfold m_law_13
    rw [Ok_seq]
    have rest : ∀ us : List Tn, TwL X.P.ts us → us.length ≤ 10 → Then m_law_14 (fun _ => Val.bl true = Val.non) (fun x => x = Val.bl true) (fun _ => False) (fun _ => False) (G (.oL (us.map Tn.v)) (.sh (.lst [strsV t0, strsV t1])) .un .un .un) := by
      intro us hus hul
      have hNu : NodesIn X.n us := fun t ht => by
        obtain ⟨u, hu, h1, h2, h3⟩ := hus.2 t ht
        obtain ⟨g1, g2, g3⟩ := CS.nodes cs u hu
        rw [h2]
        refine ⟨g1, ?_⟩
        rcases h3 with ⟨e1, e2⟩ | ⟨e1, e2⟩
        · rw [e1, e2]; exact ⟨g2, g3⟩
        · rw [e1, e2]; exact ⟨g3, g2⟩
      have se : f_settle [iv X.n, .lst (us.map Tn.v), fxV ks lv] = .ret (.lst ((settleP X.n X.P.ts ks lv).map iv)) := by
        rw [settle_congr hus (fun _ => Iff.rfl) (fun _ _ => rfl)]
        exact settle_ok X.n us ks lv hNu (fun k hk => (kf k hk).1) (fun k hk => (kf k hk).2) (by omega) (by omega) (by omega)
      have S : Settled X.n X.P.ts ks lv (settleP X.n X.P.ts ks lv) := settleP_ok (fun k hk => (kf k hk).2) fun t ht => (CS.nodes cs t ht).1
      have lev := CS.level cs S fun k hk => (kf k hk).1
      generalize settleP X.n X.P.ts ks lv = A at se S lev
      refine Then.mk ?_
      unfold m_law_14
      have w14 : sFreeze 9 (G (.oL (us.map Tn.v)) (.sh (.lst [strsV t0, strsV t1])) .un .un .un) = .next (G (.sh (.lst (us.map Tn.v))) (.sh (.lst [strsV t0, strsV t1])) .un .un .un) := rfl
      rw [Ok_seq, w14, Ok_next]
      refine Then.mk ?_
      unfold m_law_15
      have w15 : sSet 12 (eCall f_settle (aCons (eVar 6) (aCons (eVar 9) (aCons (eVar 8) aNil)))) (G (.sh (.lst (us.map Tn.v))) (.sh (.lst [strsV t0, strsV t1])) .un .un .un) = .next (G (.sh (.lst (us.map Tn.v))) (.sh (.lst [strsV t0, strsV t1])) (.sh (.lst (A.map iv))) .un .un) := by
        show ((f_settle [iv X.n, .lst (us.map Tn.v), fxV ks lv]).res.flow _ _) = _
        rw [se]
        rfl
      rw [Ok_seq, w15, Ok_next]
      refine Then.mk ?_
      unfold m_law_16
      have t16 : (bOr (bNot (bTruth (e1 (vIsi .list) (eVar 12)))) (bVal (e2 vNe (eArgs vLen (aCons (eVar 12) aNil)) (eVar 6)))) (G (.sh (.lst (us.map Tn.v))) (.sh (.lst [strsV t0, strsV t1])) (.sh (.lst (A.map iv))) .un .un) = .ok false := by
        have x1 : (bNot (bTruth (e1 (vIsi .list) (eVar 12)))) (G (.sh (.lst (us.map Tn.v))) (.sh (.lst [strsV t0, strsV t1])) (.sh (.lst (A.map iv))) .un .un) = .ok false := rfl
        have x2 : (bVal (e2 vNe (eArgs vLen (aCons (eVar 12) aNil)) (eVar 6))) (G (.sh (.lst (us.map Tn.v))) (.sh (.lst [strsV t0, strsV t1])) (.sh (.lst (A.map iv))) .un .un) = .ok false := by
          show Res.ok (!(((A.map iv).length : Int) == (X.n : Int))) = _
          rw [List.length_map, S.len, beq_self_eq_true]
          rfl
        unfold bOr
        rw [x1, Res.bind_ok, x2]
        rfl
      rw [Ok_seq]
      unfold sIf
      rw [t16]
      simp only [Res.flow_ok, cond_false, sNext, Ok_next]
      refine Then.mk ?_
      unfold m_law_17 m_law_o_F
      rw [Ok_seq]
      have getA : ∀ p, p < X.n → vIx (.lst (A.map iv)) (iv p) = .ok (iv (A.getD p 0)) := fun p hp => by
        unfold iv
        rw [vIx_lst, atI_nat, List.getElem?_map, List.getD_eq_getElem?_getD, List.getElem?_eq_getElem (by rw [S.len]; exact hp)]
        rfl
      have isi : ∀ x : Nat, f__law_is_integer [iv x] = .ret (.bl true) := fun x => isint_ok x
      have walk : Ok (sFor (itK 8) (pName 13) m_law_o_L (G (.sh (.lst (us.map Tn.v))) (.sh (.lst [strsV t0, strsV t1])) (.sh (.lst (A.map iv))) .un .un)) (fun env => ∃ s13, env = G (.sh (.lst (us.map Tn.v))) (.sh (.lst [strsV t0, strsV t1])) (.sh (.lst (A.map iv))) s13 .un) (fun _ => False) (fun _ => False) (fun _ => False) := by
        have hit : itK 8 (hide (G (.sh (.lst (us.map Tn.v))) (.sh (.lst [strsV t0, strsV t1])) (.sh (.lst (A.map iv))) .un .un)) = .ok (ks.map iv) := by
          show Res.ok ((kvsN ks fun n => iv (lv n)).map fun kv => keyVal kv.1) = _
          rw [kvsN_keys]
        refine Ok_for hit ?_
        refine forL_ind iv (fun rest env => ∃ s13, env = G (.sh (.lst (us.map Tn.v))) (.sh (.lst [strsV t0, strsV t1])) (.sh (.lst (A.map iv))) s13 .un ∧ ∀ k ∈ rest, k ∈ ks) ?_ ?_ _ _ ⟨.un, rfl, fun _ h => h⟩
        · rintro k rest env ⟨s13, rfl, hr⟩
          have hk := hr k List.mem_cons_self
          have hkn := (kf k hk).1
          refine ⟨G (.sh (.lst (us.map Tn.v))) (.sh (.lst [strsV t0, strsV t1])) (.sh (.lst (A.map iv))) (.sh (iv k)) .un, rfl, ?_⟩
          have ga := getA k hkn
          have gf : vIx (fxV ks lv) (iv k) = .ok (iv (lv k)) := ix_kvsN _ hk
          rw [S.at_ k hk hkn] at ga
          have tt : (bOr (bNot (bTruth (eCall f__law_is_integer (aCons (e2 vIx (eVar 12) (eVar 13)) aNil)))) (bVal (e2 vNe (e2 vIx (eVar 12) (eVar 13)) (e2 vIx (eVar 8) (eVar 13))))) (G (.sh (.lst (us.map Tn.v))) (.sh (.lst [strsV t0, strsV t1])) (.sh (.lst (A.map iv))) (.sh (iv k)) .un) = .ok false := by
            have x1 : (bNot (bTruth (eCall f__law_is_integer (aCons (e2 vIx (eVar 12) (eVar 13)) aNil)))) (G (.sh (.lst (us.map Tn.v))) (.sh (.lst [strsV t0, strsV t1])) (.sh (.lst (A.map iv))) (.sh (iv k)) .un) = .ok false := by
              show (((((vIx (.lst (A.map iv)) (iv k)).bind fun y => (Res.ok ([] : List Val)).bind fun ys => Res.ok (y :: ys)).bind fun xs => (f__law_is_integer xs).res).bind truth).bind fun b => Res.ok (!b)) = _
              rw [ga]
              simp only [Res.bind_ok]
              rw [isi]
              rfl
            have x2 : (bVal (e2 vNe (e2 vIx (eVar 12) (eVar 13)) (e2 vIx (eVar 8) (eVar 13)))) (G (.sh (.lst (us.map Tn.v))) (.sh (.lst [strsV t0, strsV t1])) (.sh (.lst (A.map iv))) (.sh (iv k)) .un) = .ok false := by
              show (((vIx (.lst (A.map iv)) (iv k)).bind fun x => (vIx (fxV ks lv) (iv k)).bind fun y => vNe x y).bind _) = _
              rw [ga, gf]
              show Res.ok (!((lv k : Int) == (lv k : Int))) = _
              rw [beq_self_eq_true]
              rfl
            unfold bOr
            rw [x1, Res.bind_ok, x2]
            rfl
          unfold m_law_o_L sIf
          rw [tt]
          simp only [Res.flow_ok, cond_false, sNext, Ok_next]
          exact ⟨_, rfl, fun x hx => hr x (List.mem_cons_of_mem _ hx)⟩
        · rintro env ⟨s13, rfl, _⟩
          exact ⟨s13, rfl⟩
      have hlk : sLockS 8 (sFor (itK 8) (pName 13) m_law_o_L) (G (.sh (.lst (us.map Tn.v))) (.sh (.lst [strsV t0, strsV t1])) (.sh (.lst (A.map iv))) .un .un) = noExc (sFor (itK 8) (pName 13) m_law_o_L (G (.sh (.lst (us.map Tn.v))) (.sh (.lst [strsV t0, strsV t1])) (.sh (.lst (A.map iv))) .un .un)) := rfl
      rw [hlk]
      cases hr : sFor (itK 8) (pName 13) m_law_o_L (G (.sh (.lst (us.map Tn.v))) (.sh (.lst [strsV t0, strsV t1])) (.sh (.lst (A.map iv))) .un .un) with
      | ret v e => rw [hr, Ok_ret] at walk; exact walk.elim
      | brk e => rw [hr, Ok_brk] at walk; exact walk.elim
      | cont e => rw [hr, Ok_cont] at walk; exact walk.elim
      | exc q e => rw [hr] at walk; exact walk.of.elim
      | bad => rw [hr] at walk; exact walk.of.elim
      | next e =>
        rw [hr, Ok_next] at walk
        obtain ⟨s13, rfl⟩ := walk
        show Ok (Flow.next _) _ _ _ _
        rw [Ok_next]
        refine Then.mk ?_
        unfold m_law_18
        have w18 : sSet 14 (eCall f__law_due (aCons (eCall f__law_chain_state (aCons (e2 vIx (eVar 10) (eC (.int 0))) aNil)) (aCons (eCall f__law_star_state (aCons (e2 vIx (eVar 10) (eC (.int 1))) aNil)) (aCons (eVar 3) aNil)))) (G (.sh (.lst (us.map Tn.v))) (.sh (.lst [strsV t0, strsV t1])) (.sh (.lst (A.map iv))) s13 .un) = .next (G (.sh (.lst (us.map Tn.v))) (.sh (.lst [strsV t0, strsV t1])) (.sh (.lst (A.map iv))) s13 (.sh (iv X.P.due))) := by
          show (((((f__law_chain_state [strsV t0]).res).bind fun x => (((f__law_star_state [strsV t1]).res).bind fun y => Res.ok [y, iv X.r]).bind fun xs => Res.ok (x :: xs)).bind fun xs => (f__law_due xs).res).flow _ _) = _
          rw [ch, sr]
          show ((f__law_due [.str CH, .str ST, iv X.r]).res.flow _ _) = _
          rw [du]
          rfl
        rw [Ok_seq, w18, Ok_next]
        refine Then.mk ?_
        unfold m_law_19
        have g2 : vIx (.lst (X.nums.map iv)) (.int 2) = .ok (iv (X.num 2)) := Dr.nums_get (p := 2) (by unfold Dr.n; omega)
        have ga := getA (X.num 2) (Dr.num_lt g 2)
        have lev : A.getD (X.num 2) 0 = X.P.due := lev
        rw [lev] at ga
        have er : (eAnd (eCall f__law_is_integer (aCons (e2 vIx (eVar 12) (e2 vIx (eVar 7) (eC (.int 2)))) aNil)) (e2 vEq (e2 vIx (eVar 12) (e2 vIx (eVar 7) (eC (.int 2)))) (eVar 14))) (G (.sh (.lst (us.map Tn.v))) (.sh (.lst [strsV t0, strsV t1])) (.sh (.lst (A.map iv))) s13 (.sh (iv X.P.due))) = .ok (.bl true) := by
          have a1 : (e2 vIx (eVar 12) (e2 vIx (eVar 7) (eC (.int 2)))) (G (.sh (.lst (us.map Tn.v))) (.sh (.lst [strsV t0, strsV t1])) (.sh (.lst (A.map iv))) s13 (.sh (iv X.P.due))) = .ok (iv X.P.due) := by
            show ((vIx (.lst (X.nums.map iv)) (.int 2)).bind fun y => vIx (.lst (A.map iv)) y) = _
            rw [g2]
            exact ga
          generalize e2 vIx (eVar 12) (e2 vIx (eVar 7) (eC (.int 2))) = MX at a1
          have x1 : (eCall f__law_is_integer (aCons MX aNil)) (G (.sh (.lst (us.map Tn.v))) (.sh (.lst [strsV t0, strsV t1])) (.sh (.lst (A.map iv))) s13 (.sh (iv X.P.due))) = .ok (.bl true) := by
            unfold eCall aCons
            rw [a1]
            simp only [Res.bind_ok, aNil]
            rw [isi]
            rfl
          have x2 : (e2 vEq MX (eVar 14)) (G (.sh (.lst (us.map Tn.v))) (.sh (.lst [strsV t0, strsV t1])) (.sh (.lst (A.map iv))) s13 (.sh (iv X.P.due))) = .ok (.bl true) := by
            unfold e2
            rw [a1]
            show Res.ok (Val.bl ((X.P.due : Int) == (X.P.due : Int))) = _
            rw [beq_self_eq_true]
          unfold eAnd
          rw [x1]
          simp only [Res.bind_ok, asBl, cond_true]
          exact x2
        unfold sRet
        rw [er]
        simp only [Res.flow_ok, Ok_ret]
    have tt : (bVal (e2 vEq (e2 vIx (eVar 2) (eC (.int 5))) (eC (.int 1)))) (G (.oL (os.map Tn.v)) (.sh (.lst [strsV t0, strsV t1])) .un .un .un) = .ok ((X.rev : Int) == 1) := rfl
    unfold sIf
    rw [tt]
    simp only [Res.flow_ok]
    cases ((X.rev : Int) == 1) with
    | true =>
      simp only [cond_true]
      have hrv : sReverse 9 (G (.oL (os.map Tn.v)) (.sh (.lst [strsV t0, strsV t1])) .un .un .un) = .next (G (.oL (os.reverse.map Tn.v)) (.sh (.lst [strsV t0, strsV t1])) .un .un .un) := by
        show Flow.next (G (.oL (os.map Tn.v).reverse) (.sh (.lst [strsV t0, strsV t1])) .un .un .un) = _
        rw [← List.map_reverse]
      rw [hrv, Ok_next]
      exact rest _ (TwL_rev tw) (by rw [List.length_reverse]; exact ol)
    | false =>
      simp only [cond_false, sNext, Ok_next]
      exact rest _ tw ol
end K55
end Vm
end

theorem PySem.Challenge.cw_gatesread_k55_star_against_chain_holds : PySem.Challenge.rw_gatesread_k55_star_against_chain.Holds :=
  Vm.K55.gr_holds Vm.K55.law_pure
