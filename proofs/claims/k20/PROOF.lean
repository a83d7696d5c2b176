import PyProof.Rows.All
import Wide.All
import OpenK.AllK
import Wide.FinOn
import HandS.ForMost
import HandS.Wide
import HandS.IsInst
import HandS.Walk
import HandS.Exc
import HandS.ExcOwn
import HandS.TryOnly
import HandS.WordsExc
import HandS.HeadHook1
import HandS.Lambda
import PyProof.Rows.SeqMore
import HandS.Text
import HandS.WideBits
import PyProof.MaxThree
import HandS.Dict
import HandS.Defaults
import KE.KStateDown
import HandS.Ends
import HandS.More
import HandS.Head0
import HandS.Head1
import HandS.Head2
import HandS.HeadEnd
import HandS.HeadHook2
import HandS.HeadHook3
import HandS.HeadHook4
import PyProof.DictTable
import HandS.RaiseOp
import HandS.WrittenGet
import HandS.ExcIs
import HandS.Conv
import HandS.TryMany
import HandS.Star
import HandS.SortInts
import HandS.SetKeys
import HandS.Style
import HandS.DictComp
import HandS.TupLe
import HandS.CallSlots
import HandS.Deep
import PyProof.StrBlock2
import HandS.Zip
import HandS.TupAny
import HandS.SortKw
import KE.SortKeyHeap
import HandS.EndTab
import HandS.NestedK
import KE.DataMinMax
import HandS.SetBool
import KE.SortData
import KE.KDictWalk
import KE.GoesEnum
import PySem.Challenge.RW_gatesread_k20_tests_show_all_flaws
set_option Elab.async false
set_option linter.all false
set_option maxRecDepth 100000
set_option maxHeartbeats 0
noncomputable section
namespace Vm
abbrev Str := PySem.Str
abbrev Key := Sum Int Str
/-- a value, whole: nothing in it changes any more -/
inductive Val where
  | non
  | bl (b : Bool)
  | int (i : Int)
  | str (s : Str)
  | tup (xs : List Val)
  | lst (xs : List Val)
  | dct (kvs : List (Key × Val))
  | dcT (kvs : List (List Key × Val))
  | dck (kvs : List (Key × Val))
  | ob (c : Str) (fs : List (Str × Val))
  deriving Inhabited
/-- a thing that a slot owns: what may change in place, with the values in it -/
inductive Tr where
  | v (x : Val)
  | l (ts : List Tr)
  | d (kvs : List (Key × Tr))
  | dT (kvs : List (List Key × Tr))
  | o (c : Str) (fs : List (Str × Tr))
  deriving Inhabited
mutual
def Tr.val : Tr → Val
  | .v x => x
  | .l ts => .lst (Tr.vals ts)
  | .d kvs => .dct (Tr.valsD kvs)
  | .dT kvs => .dcT (Tr.valsT kvs)
  | .o c fs => .ob c (Tr.valsO fs)
def Tr.vals : List Tr → List Val
  | [] => []
  | t :: ts => t.val :: Tr.vals ts
def Tr.valsD : List (Key × Tr) → List (Key × Val)
  | [] => []
  | (k, t) :: ts => (k, t.val) :: Tr.valsD ts
def Tr.valsT : List (List Key × Tr) → List (List Key × Val)
  | [] => []
  | (k, t) :: ts => (k, t.val) :: Tr.valsT ts
def Tr.valsO : List (Str × Tr) → List (Str × Val)
  | [] => []
  | (k, t) :: ts => (k, t.val) :: Tr.valsO ts
end
/-- a slot of a def -/
inductive Slot where
  | un
  | sh (x : Val)
  | oL (xs : List Val)
  | oD (kvs : List (Key × Val))
  | oT (t : Tr)
  | me (t : Tr)
  /-- self behind a return whose value lies in what stays -/
  | meR (t : Tr)
  deriving Inhabited
abbrev Env := List Slot
def isR : Env → Bool
  | .meR _ :: _ => true
  | _ => false
def unR : Env → Env
  | .meR t :: r => .me t :: r
  | e => e
theorem unR_set : ∀ (e : Env) (i : Nat), unR (e.set i .un) = (unR e).set i .un
  | [], _ => rfl
  | s :: r, 0 => by cases s <;> rfl
  | s :: r, i + 1 => by cases s <;> rfl
theorem isR_set : ∀ (e : Env) (i : Nat), isR (e.set i .un) = true → isR e = true
  | [], _, h => h
  | s :: r, 0, h => by cases h
  | s :: r, i + 1, h => by cases s <;> first | rfl | cases h
/-- an exception: its class's name and its fields -/
structure Exn where
  cls : Str
  fs : List (Str × Val)
inductive Res (α : Type) where
  | ok (a : α)
  | exc (e : Exn)
  | bad
def Res.bind {α β : Type} : Res α → (α → Res β) → Res β
  | .ok a, f => f a
  | .exc e, _ => .exc e
  | .bad, _ => .bad
@[simp] theorem Res.bind_ok {α β : Type} (a : α) (f : α → Res β) : (Res.ok a).bind f = f a := rfl
@[simp] theorem Res.bind_exc {α β : Type} (e : Exn) (f : α → Res β) : (Res.exc e).bind f = .exc e := rfl
@[simp] theorem Res.bind_bad {α β : Type} (f : α → Res β) : (Res.bad).bind f = .bad := rfl
def Res.ofOpt {α : Type} : Option α → Res α
  | some a => .ok a
  | none => .bad
@[simp] theorem Res.ofOpt_some {α : Type} (a : α) : Res.ofOpt (some a) = .ok a := rfl
@[simp] theorem Res.ofOpt_none {α : Type} : Res.ofOpt (none : Option α) = .bad := rfl
/-- what a value that stays may be made of: not the lists that may still change -/
def Slot.hide : Slot → Slot
  | .sh x => .sh x
  | _ => .un
def hide (env : Env) : Env := env.map Slot.hide
abbrev EX := Env → Res Val
abbrev EB := Env → Res Bool
abbrev EL := Env → Res (List Val)
def Val.isFlat : Val → Bool
  | .non => true
  | .bl _ => true
  | .int _ => true
  | .str _ => true
  | _ => false
mutual
def Val.noLst : Val → Bool
  | .tup xs => Val.noLsts xs
  | .lst _ => false
  | .dct _ => false
  | .dck kvs => Val.noLstK kvs
  | .dcT _ => false
  | .ob _ _ => false
  | .non => true
  | .bl _ => true
  | .int _ => true
  | .str _ => true
def Val.noLsts : List Val → Bool
  | [] => true
  | x :: xs => Val.noLst x && Val.noLsts xs
def Val.noLstK : List (Key × Val) → Bool
  | [] => true
  | (_, x) :: xs => Val.noLst x && Val.noLstK xs
end
mutual
def Val.isData : Val → Bool
  | .tup xs => Val.isDatas xs
  | .lst xs => Val.isDatas xs
  | .dct _ => false
  | .dck _ => false
  | .dcT _ => false
  | .ob _ _ => false
  | .non => true
  | .bl _ => true
  | .int _ => true
  | .str x => x.cps.all (· < 0x110000)
def Val.isDatas : List Val → Bool
  | [] => true
  | x :: xs => Val.isData x && Val.isDatas xs
end
mutual
def Val.depth : Val → Nat
  | .tup xs => Val.depths xs + 1
  | .lst xs => Val.depths xs + 1
  | .dct _ => 0
  | .dck _ => 0
  | .dcT _ => 0
  | .ob _ _ => 0
  | .non => 0
  | .bl _ => 0
  | .int _ => 0
  | .str _ => 0
def Val.depths : List Val → Nat
  | [] => 0
  | x :: xs => max (Val.depth x) (Val.depths xs)
end
def b2i (b : Bool) : Int := if b then 1 else 0
mutual
def eqv : Val → Val → Bool
  | .non, .non => true
  | .bl a, .bl b => a == b
  | .bl a, .int j => b2i a == j
  | .int i, .bl b => i == b2i b
  | .int i, .int j => i == j
  | .str x, .str y => x == y
  | .lst xs, .lst ys => eqvs xs ys
  | .tup xs, .tup ys => eqvs xs ys
  | _, _ => false
def eqvs : List Val → List Val → Bool
  | [], [] => true
  | x :: xs, y :: ys => eqv x y && eqvs xs ys
  | _, _ => false
end
/-- None, bools, ints, texts, but not a bool beside an int -/
def scal2 : Val → Val → Bool
  | .bl _, .int _ => false
  | .int _, .bl _ => false
  | x, y => x.isFlat && y.isFlat
def eqR (x y : Val) : Res Bool := if scal2 x y then .ok (eqv x y) else if x.isData && decide (x.depth ≤ 64) && (y.isData && decide (y.depth ≤ 64)) then .ok (eqv x y) else .bad
def eVar (i : Nat) : EX := fun env => match env[i]? with
  | some (.sh x) => .ok x
  | some (.oL xs) => .ok (.lst xs)
  | some (.oD kvs) => .ok (.dct kvs)
  | some (.oT t) => .ok t.val
  | some (.me t) => .ok t.val
  | _ => .bad
def eC (x : Val) : EX := fun _ => .ok x
def e1 (f : Val → Res Val) (a : EX) : EX := fun env => (a env).bind f
def e2 (f : Val → Val → Res Val) (a b : EX) : EX := fun env => (a env).bind fun x => (b env).bind fun y => f x y
/-- an argument list -/
def aNil : EL := fun _ => .ok []
def aCons (a : EX) (r : EL) : EL := fun env => (a env).bind fun x => (r env).bind fun xs => .ok (x :: xs)
def eArgs (f : List Val → Res Val) (a : EL) : EX := fun env => (a env).bind f
def vAdd : Val → Val → Res Val
  | .int i, .int j => .ok (.int (i + j))
  | .str x, .str y => if x.length + y.length ≤ 16777216 then .ok (.str (x ++ y)) else .bad
  | .lst xs, .lst ys => if xs.length + ys.length ≤ 16777216 then .ok (.lst (xs ++ ys)) else .bad
  | .tup xs, .tup ys => if xs.length + ys.length ≤ 16777216 ∧ xs.isEmpty = false then .ok (.tup (xs ++ ys)) else .bad
  | _, _ => .bad
def vIpAdd : Val → Val → Res Val
  | .int i, .int j => .ok (.int (i + j))
  | _, _ => .bad
def vSub : Val → Val → Res Val
  | .int i, .int j => .ok (.int (i - j))
  | _, _ => .bad
/-- p, nothing to run: the bounds of what the model's numbers may be -/
def big (p : Prop) : Bool := @decide p (Classical.propDecidable p)
theorem big_iff {p : Prop} : big p = true ↔ p := @decide_eq_true_iff p (Classical.propDecidable p)
def smallI (i : Int) : Bool := big (-4611686018427387904 ≤ i ∧ i < 4611686018427387904)
def mulOk (i j : Int) : Bool := big ((-18446744073709551616 < i ∧ i < 18446744073709551616) ∨ (-18446744073709551616 < j ∧ j < 18446744073709551616))
def divOk (j : Int) : Bool := big (0 < j ∧ j < 1267650600228229401496703205376)
def powOk (i j : Int) : Bool := big (0 ≤ j ∧ j ≤ 1000000 ∧ i.natAbs < 18446744073709551616)
def vMul : Val → Val → Res Val
  | .int i, .int j => if mulOk i j = true then .ok (.int (i * j)) else .bad
  | _, _ => .bad
/-- x & 1 -/
def vAnd1 : Val → Val → Res Val
  | .int i, .int 1 => .ok (.int (i % 2))
  | _, _ => .bad
def vShl : Val → Val → Res Val
  | .int i, .int j => if powOk i j = true then .ok (.int (i * 2 ^ j.toNat)) else .bad
  | _, _ => .bad
def vShr : Val → Val → Res Val
  | .int i, .int j => if 0 ≤ j then .ok (.int (i / 2 ^ j.toNat)) else .bad
  | _, _ => .bad
def vDiv : Val → Val → Res Val
  | .int i, .int j => if divOk j = true then .ok (.int (i / j)) else .bad
  | _, _ => .bad
def vMod : Val → Val → Res Val
  | .int i, .int j => if 0 < j then .ok (.int (i % j)) else .bad
  | _, _ => .bad
def vPow : Val → Val → Res Val
  | .int i, .int j => if powOk i j = true then .ok (.int (i ^ j.toNat)) else .bad
  | _, _ => .bad
def vNeg : Val → Res Val
  | .int i => .ok (.int (-i))
  | _ => .bad
def vLt : Val → Val → Res Val
  | .int i, .int j => .ok (.bl (decide (i < j)))
  | _, _ => .bad
def vLe : Val → Val → Res Val
  | .int i, .int j => .ok (.bl (decide (i ≤ j)))
  | _, _ => .bad
def vGt : Val → Val → Res Val
  | .int i, .int j => .ok (.bl (decide (j < i)))
  | _, _ => .bad
def vGe : Val → Val → Res Val
  | .int i, .int j => .ok (.bl (decide (j ≤ i)))
  | _, _ => .bad
def vEq (x y : Val) : Res Val := (eqR x y).bind fun b => .ok (.bl b)
def vNe (x y : Val) : Res Val := (eqR x y).bind fun b => .ok (.bl (!b))
def inFlat (x : Val) (xs : List Val) : Bool := xs.any fun y => eqv y x
def vInS : Val → Val → Res Val
  | x, .lst xs => if x.isFlat && xs.all Val.isFlat then .ok (.bl (inFlat x xs)) else .bad
  | x, .tup xs => if x.isFlat && xs.all Val.isFlat then .ok (.bl (inFlat x xs)) else .bad
  | .str x, .str y => match x.cps.toList with
    | [c] => .ok (.bl (decide (c ∈ y.cps.toList)))
    | _ => .bad
  | _, _ => .bad
def rNot : Res Val → Res Val
  | .ok (.bl b) => .ok (.bl (!b))
  | .ok _ => .bad
  | .exc e => .exc e
  | .bad => .bad
def vNotInS (x y : Val) : Res Val := rNot (vInS x y)
def keyOfV : Val → Option Key
  | .int i => some (.inl i)
  | .str x => some (.inr x)
  | _ => none
def getV (kvs : List (Key × Val)) (k : Key) : Option Val := (kvs.find? fun kv => decide (kv.1 = k)).map (·.2)
def putV (kvs : List (Key × Val)) (k : Key) (v : Val) : List (Key × Val) := if (kvs.any fun kv => decide (kv.1 = k)) = true then kvs.map (fun kv => if kv.1 = k then (kv.1, v) else kv) else kvs ++ [(k, v)]
def mergeV (kvs more : List (Key × Val)) : List (Key × Val) := more.foldl (fun acc kv => putV acc kv.1 kv.2) kvs
def vInD (x : Val) (kvs : List (Key × Val)) : Res Val := match keyOfV x with
  | some k => .ok (.bl (getV kvs k).isSome)
  | none => .bad
def vIn (x : Val) : Val → Res Val
  | .dct kvs => vInD x kvs
  | .dck kvs => vInD x kvs
  | y => vInS x y
def vNotIn (x y : Val) : Res Val := rNot (vIn x y)
def vIs : Val → Val → Res Val
  | .non, .non => .ok (.bl true)
  | _, .non => .ok (.bl false)
  | _, _ => .bad
def vIsNot : Val → Val → Res Val
  | .non, .non => .ok (.bl false)
  | _, .non => .ok (.bl true)
  | _, _ => .bad
/-- an index, from the end if it is negative -/
def ixNat (n : Nat) (i : Int) : Option Nat := if 0 ≤ i then (if i < n then some i.toNat else none) else if -(n : Int) ≤ i then some (i + n).toNat else none
def atI {α : Type} (xs : List α) (i : Int) : Option α := (ixNat xs.length i).bind fun k => xs[k]?
def vIxS : Val → Val → Res Val
  | .lst xs, .int i => Res.ofOpt (atI xs i)
  | .tup xs, .int i => Res.ofOpt (atI xs i)
  | .str z, .int i => if z.length ≤ 16777216 then Res.ofOpt ((atI z.cps.toList i).map fun c => .str ⟨#[c]⟩) else .bad
  | _, _ => .bad
def vIx : Val → Val → Res Val
  | .dct kvs, k => Res.ofOpt ((keyOfV k).bind (getV kvs))
  | .dck kvs, k => Res.ofOpt ((keyOfV k).bind (getV kvs))
  | x, k => vIxS x k
/-- the bounds of a slice -/
def cutAt (n : Nat) (d : Nat) : Option Int → Nat
  | none => d
  | some i => if i < 0 then (i + (n : Int)).toNat else min i.toNat n
def cut {α : Type} (xs : List α) (lo hi : Option Int) : List α := (xs.drop (cutAt xs.length 0 lo)).take (cutAt xs.length xs.length hi - cutAt xs.length 0 lo)
def partOf : Option EX → Env → Res (Option Int)
  | none, _ => .ok none
  | some a, env => (a env).bind fun
    | .int i => .ok (some i)
    | _ => .bad
def vCut : Val → Option Int → Option Int → Res Val
  | .lst xs, lo, hi => .ok (.lst (cut xs lo hi))
  | .str z, lo, hi => if z.length ≤ 16777216 then .ok (.str ⟨(cut z.cps.toList lo hi).toArray⟩) else .bad
  | .tup xs, lo, hi => if cutAt xs.length 0 lo = 0 ∧ cutAt xs.length xs.length hi = xs.length then .bad else .ok (.tup (cut xs lo hi))
  | _, _, _ => .bad
def eCut (a : EX) (lo hi : Option EX) : EX := fun env => (a env).bind fun x => (partOf lo env).bind fun l => (partOf hi env).bind fun h => vCut x l h
/-- truth -/
def truth : Val → Res Bool
  | .non => .ok false
  | .bl b => .ok b
  | .int i => .ok (i != 0)
  | .str z => if z.length ≤ 16777216 then .ok (z.length != 0) else .bad
  | .tup xs => .ok (!xs.isEmpty)
  | .lst xs => .ok (!xs.isEmpty)
  | .dct _ => .bad
  | .dck _ => .bad
  | .dcT _ => .bad
  | .ob _ _ => .bad
def bVal (a : EX) : EB := fun env => (a env).bind fun
  | .bl b => .ok b
  | _ => .bad
def bTruth (a : EX) : EB := fun env => (a env).bind truth
def bAnd (a b : EB) : EB := fun env => (a env).bind fun x => bif x then b env else .ok false
def bOr (a b : EB) : EB := fun env => (a env).bind fun x => bif x then .ok true else b env
def bNot (a : EB) : EB := fun env => (a env).bind fun x => .ok (!x)
def asBl : Val → Res Bool
  | .bl b => .ok b
  | _ => .bad
def eAnd (a b : EX) : EX := fun env => (a env).bind fun x => (asBl x).bind fun k => bif k then b env else .ok (.bl false)
def eOr (a b : EX) : EX := fun env => (a env).bind fun x => (asBl x).bind fun k => bif k then .ok (.bl true) else b env
def eNot (a : EX) : EX := fun env => (a env).bind fun x => (asBl x).bind fun k => .ok (.bl (!k))
def eIf (t : EB) (a b : EX) : EX := fun env => (t env).bind fun k => bif k then a env else b env
/-- a op b op' c -/
def eChain (f g : Val → Val → Res Val) (a b c : EX) : EX := fun env => (a env).bind fun x => (b env).bind fun y => (f x y).bind fun z => (asBl z).bind fun k => bif k then (c env).bind fun w => g y w else .ok (.bl false)
def vTup (xs : List Val) : Res Val := if xs.length ≤ 16777216 then .ok (.tup xs) else .bad
def vLst (xs : List Val) : Res Val := if xs.length ≤ 16777216 then .ok (.lst xs) else .bad
def vKGet (tab : List (Str × Val)) : Val → Res Val
  | .str z => Res.ofOpt (tab.lookup z)
  | _ => .bad
def vKIn (tab : List (Str × Val)) : Val → Res Val
  | .str z => .ok (.bl (tab.lookup z).isSome)
  | _ => .bad
/-- the same, keys made, too -/
def DPairsV : List (EX × EX) → Env → Res (List (Key × Val))
  | [], _ => .ok []
  | (k, a) :: r, env => (k env).bind fun q => (a env).bind fun x => (Res.ofOpt (keyOfV q)).bind fun q => (DPairsV r env).bind fun ps => .ok ((q, x) :: ps)
def eDictV (ps : List (EX × EX)) : EX := fun env => (DPairsV ps env).bind fun kvs => if kvs.length ≤ 15 then .ok (.dct (mergeV [] kvs)) else .bad
/-- d.get(k), d.get(k, z) -/
def getD (kvs : List (Key × Val)) (k z : Val) : Res Val := match keyOfV k with
  | some q => .ok ((getV kvs q).getD z)
  | none => .bad
def eGet2 (a b c : EX) : EX := fun env => (a env).bind fun
  | .dct kvs => (b env).bind fun k => (c env).bind fun z => getD kvs k z
  | .dck kvs => (b env).bind fun k => (c env).bind fun z => getD kvs k z
  | _ => .bad
/-- xs.index(x), flat items -/
def indexOf (x : Val) : List Val → Option Nat
  | [] => none
  | y :: ys => bif eqv y x then some 0 else (indexOf x ys).map (· + 1)
def vIndex (xs : List Val) (x : Val) : Res Val := if (x.isFlat && xs.all Val.isFlat) = true then (match indexOf x xs with
    | some j => .ok (.int (j : Nat))
    | none => .bad) else .bad
def eIndex (a b : EX) : EX := fun env => (a env).bind fun
  | .lst xs => (b env).bind fun x => vIndex xs x
  | _ => .bad
def vLen : List Val → Res Val
  | [.lst xs] => .ok (.int xs.length)
  | [.tup xs] => .ok (.int xs.length)
  | [.str z] => if z.length ≤ 16777216 then .ok (.int z.length) else .bad
  | _ => .bad
def digitOf (z : Str) : Option Int := match z.cps.toList with
  | [c] => if 48 ≤ c ∧ c ≤ 57 then some ((c : Int) - 48) else none
  | _ => none
def vInt : List Val → Res Val
  | [.str z] => (Res.ofOpt (digitOf z)).bind fun i => .ok (.int i)
  | [.int i] => .ok (.int i)
  | [.bl b] => .ok (.int (b2i b))
  | _ => .bad
inductive Ty where
  | int | bool | str | list | tuple | dict
  deriving DecidableEq
def Val.ty : Val → Option Ty
  | .non => none
  | .bl _ => some .bool
  | .int _ => some .int
  | .str _ => some .str
  | .tup _ => some .tuple
  | .lst _ => some .list
  | .dct _ => some .dict
  | .dck _ => some .dict
  | .dcT _ => some .dict
  | .ob _ _ => none
def Ty.sub (t : Option Ty) (u : Ty) : Bool := t == some u || (t == some .bool && u == .int)
def Val.isOb : Val → Bool
  | .ob _ _ => true
  | _ => false
def vIsi (u : Ty) (x : Val) : Res Val := if x.isOb = true then .bad else .ok (.bl (Ty.sub x.ty u))
/-- a list's intsOf, bools, texts -/
def intsOf : List Val → Option (List Int)
  | [] => some []
  | .int i :: r => (intsOf r).map (i :: ·)
  | _ :: _ => none
def blsOf : List Val → Option (List Bool)
  | [] => some []
  | .bl i :: r => (blsOf r).map (i :: ·)
  | _ :: _ => none
def vSum : List Val → Res Val
  | [.lst xs] => (Res.ofOpt (intsOf xs)).bind fun ns => .ok (.int ns.sum)
  | _ => .bad
def maxL : Int → List Int → Int
  | m, [] => m
  | m, x :: r => maxL (if x > m then x else m) r
def minL : Int → List Int → Int
  | m, [] => m
  | m, x :: r => minL (if x < m then x else m) r
def vMax : List Val → Res Val
  | [.int i, .int j] => .ok (.int (if j > i then j else i))
  | [.int i, .int j, .int k] => .ok (.int (if k > (if j > i then j else i) then k else (if j > i then j else i)))
  | [.lst xs] => (Res.ofOpt (intsOf xs)).bind fun
    | [] => .bad
    | n :: ns => .ok (.int (maxL n ns))
  | _ => .bad
def vMin : List Val → Res Val
  | [.int i, .int j] => .ok (.int (if j < i then j else i))
  | [.lst xs] => (Res.ofOpt (intsOf xs)).bind fun
    | [] => .bad
    | n :: ns => .ok (.int (minL n ns))
  | _ => .bad
def vAny : List Val → Res Val
  | [.lst xs] => (Res.ofOpt (blsOf xs)).bind fun bs => .ok (.bl (bs.any id))
  | _ => .bad
def vAll : List Val → Res Val
  | [.lst xs] => (Res.ofOpt (blsOf xs)).bind fun bs => .ok (.bl (bs.all id))
  | _ => .bad
def vListOf : List Val → Res Val
  | [.lst xs] => .ok (.lst xs)
  | [.tup xs] => .ok (.lst xs)
  | _ => .bad
def vTupOf : List Val → Res Val
  | [.lst xs] => .ok (.tup xs)
  | [.tup xs] => .ok (.tup xs)
  | _ => .bad
abbrev EI := Env → Res (List Val)
def itemsOf : Val → Res (List Val)
  | .lst xs => .ok xs
  | .tup xs => .ok xs
  | .str z => .ok (z.cps.toList.map fun c => .str ⟨#[c]⟩)
  | _ => .bad
def iSeq (a : EX) : EI := fun env => (a env).bind itemsOf
def rangeL (lo : Int) (n : Nat) : List Val := (List.range n).map fun (i : Nat) => Val.int (lo + (i : Int))
def iRange1 (a : EX) : EI := fun env => (a env).bind fun
  | .int j => if smallI j then .ok (rangeL 0 j.toNat) else .bad
  | _ => .bad
def iRange2 (a b : EX) : EI := fun env => (a env).bind fun x => (b env).bind fun y => match x, y with
  | .int i, .int j => if smallI i && smallI j then .ok (rangeL i (j - i).toNat) else .bad
  | _, _ => .bad
/-- list(range(..)), tuple(range(..)) -/
def rangeV (mk : List Val → Val) (i j : Int) : Res Val := if smallI i && smallI j && big ((j - i).toNat ≤ 16777216) then .ok (mk (rangeL i (j - i).toNat)) else .bad
def eRange1 (mk : List Val → Val) (a : EX) : EX := fun env => (a env).bind fun
  | .int j => rangeV mk 0 j
  | _ => .bad
def enumL : Nat → List Val → List Val
  | _, [] => []
  | n, x :: r => .tup [.int (n : Int), x] :: enumL (n + 1) r
def iEnumV (a : EX) : EI := fun env => (a env).bind fun
  | .lst xs => .ok (enumL 0 xs)
  | _ => .bad
abbrev Put := Val → Env → Res Env
def pName (i : Nat) : Put := fun x env => if i < env.length then .ok (env.set i (.sh x)) else .bad
def putAll : List Nat → List Val → Env → Res Env
  | [], [], env => .ok env
  | i :: is, x :: xs, env => (pName i x env).bind fun e => putAll is xs e
  | _, _, _ => .bad
def pTup (is : List Nat) : Put := fun x env => match x with
  | .tup xs => putAll is xs env
  | _ => .bad
def pTupL (is : List Nat) : Put := fun x env => match x with
  | .lst xs => putAll is xs env
  | _ => .bad
def wipeE (env : Env) : List Nat → Env
  | [] => env
  | v :: vs => (wipeE env vs).set v .un
/-- nothing is raised -/
def Res.nx {α : Type} : Res α → Res α
  | .exc _ => .bad
  | r => r
@[simp] theorem Res.nx_ok {α : Type} (a : α) : (Res.ok a).nx = .ok a := rfl
def compL (put : Put) (tt : EB) (el : EX) (env : Env) : List Val → Res (List Val)
  | [] => .ok []
  | x :: xs => (put x env).nx.bind fun e => (tt e).nx.bind fun b => bif b then (el e).nx.bind fun y => (compL put tt el env xs).bind fun r => .ok (y :: r) else compL put tt el env xs
def bYes : EB := fun _ => .ok true
def eComp (it : EI) (own : List Nat) (put : Put) (tt : EB) (el : EX) : EX := fun env => (it env).bind fun xs => if xs.length ≤ 16777216 then (compL put tt el (wipeE env own) xs).bind fun r => .ok (.lst r) else .bad
inductive Flow where
  | next (e : Env)
  | brk (e : Env)
  | cont (e : Env)
  | ret (x : Val) (e : Env)
  | exc (x : Exn) (e : Env)
  | bad
abbrev ST := Env → Flow
def Flow.bind : Flow → (Env → Flow) → Flow
  | .next e, f => f e
  | r, _ => r
def Res.flow {α : Type} : Res α → Env → (α → Flow) → Flow
  | .ok a, _, f => f a
  | .exc x, e, _ => .exc x e
  | .bad, _, _ => .bad
@[simp] theorem Flow.bind_next (e : Env) (f : Env → Flow) : (Flow.next e).bind f = f e := rfl
@[simp] theorem Flow.bind_ret (x : Val) (e : Env) (f : Env → Flow) : (Flow.ret x e).bind f = .ret x e := rfl
@[simp] theorem Flow.bind_bad (f : Env → Flow) : Flow.bad.bind f = .bad := rfl
@[simp] theorem Flow.bind_brk (e : Env) (f : Env → Flow) : (Flow.brk e).bind f = .brk e := rfl
@[simp] theorem Flow.bind_cont (e : Env) (f : Env → Flow) : (Flow.cont e).bind f = .cont e := rfl
@[simp] theorem Flow.bind_exc (x : Exn) (e : Env) (f : Env → Flow) : (Flow.exc x e).bind f = .exc x e := rfl
@[simp] theorem Res.flow_ok {α : Type} (a : α) (e : Env) (f : α → Flow) : (Res.ok a).flow e f = f a := rfl
@[simp] theorem Res.flow_exc {α : Type} (x : Exn) (e : Env) (f : α → Flow) : (Res.exc x : Res α).flow e f = .exc x e := rfl
@[simp] theorem Res.flow_bad {α : Type} (e : Env) (f : α → Flow) : (Res.bad : Res α).flow e f = .bad := rfl
def sNext : ST := .next
def sSeq (a b : ST) : ST := fun env => (a env).bind b
def sBreak : ST := .brk
def sCont : ST := .cont
/-- x = e, nothing in e that may still change -/
def sSet (i : Nat) (a : EX) : ST := fun env => (a (hide env)).flow env fun x => if i < env.length then .next (env.set i (.sh x)) else .bad
/-- x = e, no list in the value -/
def sSetN (i : Nat) (a : EX) : ST := fun env => (a env).flow env fun x => if i < env.length ∧ x.noLst = true then .next (env.set i (.sh x)) else .bad
def sPut (p : Put) (a : EX) : ST := fun env => (a (hide env)).flow env fun x => (p x env).flow env .next
/-- a new list of the slot's own -/
def sOwn (i : Nat) (a : EX) : ST := fun env => (a (hide env)).flow env fun
  | .lst xs => if i < env.length then .next (env.set i (.oL xs)) else .bad
  | _ => .bad
def sOwnN (i : Nat) (a : EX) : ST := fun env => (a env).flow env fun
  | .lst xs => if i < env.length ∧ Val.noLsts xs = true then .next (env.set i (.oL xs)) else .bad
  | _ => .bad
/-- from here on the slot's list stays as it is -/
def sFreeze (i : Nat) : ST := fun env => match env[i]? with
  | some (.oL xs) => .next (env.set i (.sh (.lst xs)))
  | _ => .bad
def sForget (is : List Nat) : ST := fun env => .next (wipeE env is)
def sDrop (a : EX) : ST := fun env => (a env).flow env fun _ => .next env
def sAppend (i : Nat) (a : EX) : ST := fun env => match env[i]? with
  | some (.oL xs) => (a (hide env)).flow env fun x => if xs.length < 16777216 then .next (env.set i (.oL (xs ++ [x]))) else .bad
  | _ => .bad
def sAppendN (i : Nat) (a : EX) : ST := fun env => match env[i]? with
  | some (.oL xs) => (a env).flow env fun x => if xs.length < 16777216 ∧ x.noLst = true then .next (env.set i (.oL (xs ++ [x]))) else .bad
  | _ => .bad
/-- x[k] = e in a list of the slot's own; e: nothing that may still change | e: no list in it -/
def itemPut (i : Nat) (env : Env) (x k : Val) : Flow := match env[i]?, k with
  | some (.oL xs), .int k => (match ixNat xs.length k with
    | some j => .next (env.set i (.oL (xs.set j x)))
    | none => .bad)
  | _, _ => .bad
def sItem (i : Nat) (b a : EX) : ST := fun env => (a (hide env)).flow env fun x => (b env).flow env fun k => itemPut i env x k
def sItemN (i : Nat) (b a : EX) : ST := fun env => (a env).flow env fun x => if x.noLst = true then (b env).flow env fun k => itemPut i env x k else .bad
/-- the slot has a list of its own -/
def sOn (i : Nat) (m : ST) : ST := fun env => match env[i]? with
  | some (.oL _) => m env
  | _ => .bad
/-- y = xs.pop(k); zs.append(xs.pop(k)) -/
def popAt (i : Nat) (env : Env) (k : Val) (f : Val → List Val → Flow) : Flow := match env[i]?, k with
  | some (.oL xs), .int k => if smallI k = true then (match ixNat xs.length k with
    | some m => (match xs[m]? with
      | some x => f x (xs.eraseIdx m)
      | none => .bad)
    | none => .bad) else .bad
  | _, _ => .bad
def sPopAtTo (i j : Nat) (b : EX) : ST := fun env => match env[i]? with
  | some (.oL _) => (b env).flow env fun k => popAt i env k fun x r => if j < env.length ∧ i ≠ j then .next ((env.set i (.oL r)).set j (.sh x)) else .bad
  | _ => .bad
def sAppPop (i j : Nat) (b : EX) : ST := fun env => match env[i]?, env[j]? with
  | some (.oL ys), some (.oL _) => (b env).flow env fun k => popAt j env k fun x r => if i ≠ j ∧ ys.length < 16777216 then .next ((env.set j (.oL r)).set i (.oL (ys ++ [x]))) else .bad
  | _, _ => .bad
def sAug (f : Val → Val → Res Val) (i : Nat) (a : EX) : ST := fun env => match env[i]? with
  | some (.sh x) => (a env).flow env fun y => (f x y).flow env fun z => if z.noLst = true then .next (env.set i (.sh z)) else .bad
  | _ => .bad
def sIf (t : EB) (a b : ST) : ST := fun env => (t env).flow env fun k => bif k then a env else b env
def sRet (a : EX) : ST := fun env => (a env).flow env fun x => .ret x env
def sRetN : ST := fun env => .ret .non env
def forL (put : Put) (body : ST) : List Val → Env → Flow
  | [], env => .next env
  | x :: xs, env => (put x env).nx.flow env fun e => match body e with
    | .next e' => forL put body xs e'
    | .cont e' => forL put body xs e'
    | .brk e' => .next e'
    | .ret v e' => .ret v e'
    | .exc q e' => .exc q e'
    | .bad => .bad
def sFor (it : EI) (put : Put) (body : ST) : ST := fun env => (it (hide env)).flow env fun xs => forL put body xs env
/-- at most n turns -/
def whileL (t : EB) (body : ST) : Nat → Env → Flow
  | 0, _ => .bad
  | n + 1, env => (t env).flow env fun k => bif k then (match body env with
    | .next e' => whileL t body n e'
    | .cont e' => whileL t body n e'
    | .brk e' => .next e'
    | .ret v e' => .ret v e'
    | .exc q e' => .exc q e'
    | .bad => .bad) else .next env
def sWhile (n : Nat) (t : EB) (body : ST) : ST := fun env => whileL t body n env
def sRaise (q : Exn) : ST := fun env => .exc q env
/-- nothing is raised -/
def Flow.calm : Flow → Flow
  | .exc _ _ => .bad
  | r => r
/-- behind an except suite: its name is gone -/
def Flow.gone (i : Nat) : Flow → Flow
  | .next e => .next (e.set i .un)
  | .brk e => .brk (e.set i .un)
  | .cont e => .cont (e.set i .un)
  | .ret x e => .ret x (e.set i .un)
  | .exc _ _ => .bad
  | .bad => .bad
def sTryAs (i : Nat) (tab : List (Str × Bool)) (body : ST) (su : Exn → ST) : ST := fun env => match body env with
  | .exc q e => (match tab.lookup q.cls with
    | some true => if i < e.length then (su q (e.set i .un)).gone i else .bad
    | some false => .exc q e
    | none => .bad)
  | r => r
/-- a suite for exceptions without fields -/
def suE (su : Exn → ST) : Exn → ST := fun q env => if q.fs.isEmpty then su q env else .bad
/-- isinstance(e, c), e what the suite holds -/
def eIsE (tab : List (Str × Bool)) (q : Exn) : EX := fun _ => match tab.lookup q.cls with
  | some b => .ok (.bl b)
  | none => .bad
inductive DR where
  | ret (x : Val)
  | exc (e : Exn)
  | bad
abbrev Fn := List Val → DR
def startE (n : Nat) (xs : List Val) : Env := xs.map Slot.sh ++ List.replicate (n - xs.length) Slot.un
/-- a def of k parameters and n slots in all -/
def defn (k n : Nat) (body : ST) : Fn := fun xs => if xs.length = k then (match body (startE n xs) with
  | .next _ => .ret .non
  | .ret x _ => .ret x
  | .exc e _ => .exc e
  | _ => .bad) else .bad
def DR.res : DR → Res Val
  | .ret x => .ok x
  | .exc e => .exc e
  | .bad => .bad
def eCall (f : Fn) (a : EL) : EX := fun env => (a env).bind fun xs => (f xs).res
end Vm
end
namespace Vm
open PySem L2
abbrev Sub (H H' : Hp) : Prop := Same H H'
/-- the tables of code objects of the defs that make lambdas, with the lambdas' names -/
class TabsOf where
  T : List (Addr × Str)
instance (priority := low) TabsOf.none : TabsOf := ⟨[]⟩
section
variable [TabsOf]
def ntb : HO → Bool
  | .tbl _ => false
  | _ => true
/-- all but tables stays -/
structure Hh (H H' : Hp) : Prop where
  to : ∀ b o, H b = some o → ntb o = true → H' b = some o
  ne : ∀ b, H' b = Option.none → H b = Option.none
theorem Hh.of {H H' : Hp} (e : ∀ b o, H b = some o → H' b = some o) : Hh H H' := ⟨fun b o h _ => e b o h, fun b h => by
  cases q : H b with
  | none => rfl
  | some o => rw [e b o q] at h; cases h⟩
theorem Hh.refl (H : Hp) : Hh H H := .of fun _ _ h => h
theorem Hh.trans {H H1 H2 : Hp} (a : Hh H H1) (b : Hh H1 H2) : Hh H H2 := ⟨fun c o h n => b.to c o (a.to c o h n) n, fun c h => a.ne c (b.ne c h)⟩
theorem Hh.free {H H' : Hp} (e : Hh H H') {l : Addr} (h : H' l = Option.none) : H l = Option.none := e.ne l h
theorem Hh.upd {H H' : Hp} {p : Addr} {o : HO} (e : Hh H H') (h : H p = Option.none) : Hh H (upd H' p o) := ⟨fun b u q n => by rw [upd_ne (ne_of_none q h)]; exact e.to b u q n, fun b q => by
  by_cases hb : b = p
  · rw [hb]; exact h
  · rw [upd_ne hb] at q; exact e.ne b q⟩
/-- N stands within H; no tables in N -/
structure Inn (N H : Hp) : Prop where
  sub : Sub N H
  tt : LamX.Tabs TabsOf.T H
  nt : ∀ b o, N b = some o → ntb o = true
instance {N H : Hp} : CoeFun (Inn N H) fun _ => ∀ b o, N b = some o → H b = some o := ⟨Inn.sub⟩
instance {N H : Hp} : Coe (Inn N H) (Same N H) := ⟨Inn.sub⟩
theorem Inn.free {H H' : Hp} (e : Inn H H') {l : Addr} (h : H' l = Option.none) : H l = Option.none := e.sub.free h
/-- a new thing, in N too or not -/
theorem Inn.new {N H : Hp} {p : Addr} {o : HO} (e : Inn N H) (h : H p = Option.none) (ho : ntb o = true := by rfl) : Inn (upd N p o) (upd H p o) := ⟨fun b u q => by
  by_cases hb : b = p
  · subst hb; rw [upd_same] at q ⊢; exact q
  · rw [upd_ne hb] at q ⊢; exact e.sub b u q, e.tt.ext fun b u q => by rw [upd_ne (ne_of_none q h)]; exact q, fun b u q => by
  by_cases hb : b = p
  · subst hb; rw [upd_same] at q; cases q; exact ho
  · rw [upd_ne hb] at q; exact e.nt b u q⟩
theorem Inn.newH {N H : Hp} {p : Addr} {o : HO} (e : Inn N H) (h : H p = Option.none) : Inn N (upd H p o) := ⟨fun b u q => by
  rw [upd_ne (ne_of_none (e.sub b u q) h)]; exact e.sub b u q, e.tt.ext fun b u q => by rw [upd_ne (ne_of_none q h)]; exact q, e.nt⟩
/-- what may be written without harm to a table -/
def Wr : HO → Bool
  | .tbl _ => false
  | .ext _ => false
  | _ => true
theorem tabs_wr {T : List (Addr × Str)} {H : Hp} {p : Addr} {o u : HO} (t : LamX.Tabs T H) (h : H p = some u) (hw : Wr u = true) : LamX.Tabs T (upd H p o) := fun q hq => by
  obtain ⟨ps, h1, h2, h3⟩ := t q hq
  refine ⟨ps, ?_, h2, fun pos cv hc => ?_⟩
  · rw [upd_ne fun z => by rw [z, h] at h1; cases h1; cases hw]; exact h1
  · obtain ⟨c, e1, e2⟩ := h3 pos cv hc
    refine ⟨c, e1, ?_⟩
    rw [upd_ne fun z => by rw [z, h] at e2; cases e2; cases hw]; exact e2
theorem wr_ntb {o : HO} (h : Wr o = true) : ntb o = true := by cases o <;> first | rfl | cases h
/-- a thing that is not in N is written -/
theorem Inn.wr {N H : Hp} {p : Addr} {o u : HO} (e : Inn N H) (hN : N p = Option.none) (h : H p = some u) (hw : Wr u = true := by rfl) : Inn N (upd H p o) := ⟨fun b v q => by
  rw [upd_ne (ne_of_none q hN)]; exact e.sub b v q, tabs_wr e.tt h hw, e.nt⟩
/-- .. and is in N from now on -/
theorem Inn.put {N H : Hp} {p : Addr} {o u : HO} (e : Inn N H) (hN : N p = Option.none) (h : H p = some u) (hw : Wr u = true := by rfl) (ho : ntb o = true := by rfl) : Inn (upd N p o) (upd H p o) := ⟨fun b v q => by
  by_cases hb : b = p
  · subst hb; rw [upd_same] at q ⊢; exact q
  · rw [upd_ne hb] at q ⊢; exact e.sub b v q, tabs_wr e.tt h hw, fun b v q => by
  by_cases hb : b = p
  · subst hb; rw [upd_same] at q; cases q; exact ho
  · rw [upd_ne hb] at q; exact e.nt b v q⟩
/-- what stands in H is in N from now on -/
theorem Inn.add {N H : Hp} {p : Addr} {o : HO} (e : Inn N H) (h : H p = some o) (ho : ntb o = true := by rfl) : Inn (upd N p o) H := ⟨fun b v q => by
  by_cases hb : b = p
  · subst hb; rw [upd_same] at q; cases q; exact h
  · rw [upd_ne hb] at q; exact e.sub b v q, e.tt, fun b v q => by
  by_cases hb : b = p
  · subst hb; rw [upd_same] at q; cases q; exact ho
  · rw [upd_ne hb] at q; exact e.nt b v q⟩
/-- any part of H that has no tables -/
theorem Inn.part {N N' H : Hp} (e : Inn N H) (h : ∀ b o, N' b = some o → H b = some o ∧ (N b = some o ∨ ntb o = true)) : Inn N' H := ⟨fun b o q => (h b o q).1, e.tt, fun b o q => (h b o q).2.elim (e.nt b o) id⟩
/-- a thing is hidden again -/
theorem Inn.hid {N H : Hp} {D : Addr} {u : HO} (e : Inn N H) (hN : N D = Option.none) (h : H D = some u) (hw : Wr u = true := by rfl) : Inn N (fun a => if a = D then Option.none else H a) := ⟨fun b v q => by
  show (if b = D then Option.none else H b) = some v
  rw [if_neg (ne_of_none q hN)]; exact e.sub b v q, fun q hq => by
  obtain ⟨ps, h1, h2, h3⟩ := e.tt q hq
  refine ⟨ps, ?_, h2, fun pos cv hc => ?_⟩
  · show (if q.1 = D then Option.none else H q.1) = _
    rw [if_neg fun z => by rw [z, h] at h1; cases h1; cases hw]; exact h1
  · obtain ⟨c, e1, e2⟩ := h3 pos cv hc
    refine ⟨c, e1, ?_⟩
    show (if c = D then Option.none else H c) = _
    rw [if_neg fun z => by rw [z, h] at e2; cases e2; cases hw]; exact e2, e.nt⟩
theorem Hh.hid {H H' : Hp} {D : Addr} (e : Hh H H') (h : H D = Option.none) : Hh H (fun a => if a = D then Option.none else H' a) := ⟨fun b u q n => by
  show (if b = D then Option.none else H' b) = some u
  rw [if_neg (ne_of_none q h)]; exact e.to b u q n, fun b q => by
  have q : (if b = D then Option.none else H' b) = Option.none := q
  by_cases hb : b = D
  · rw [hb]; exact h
  · rw [if_neg hb] at q; exact e.ne b q⟩
/-- from N within H to N' within H': only new things -/
structure Gr (N H N' H' : Hp) : Prop where
  hh : Hh H H'
  nn : Sub N N'
  nh : Inn N' H'
  nw : ∀ a, N' a ≠ none → N a ≠ none ∨ H a = none
theorem Gr.refl {N H : Hp} (e : Inn N H) : Gr N H N H := ⟨Hh.refl _, Same.refl _, e, fun _ h => .inl h⟩
theorem Gr.trans {N H N1 H1 N2 H2 : Hp} (a : Gr N H N1 H1) (b : Gr N1 H1 N2 H2) : Gr N H N2 H2 :=
  ⟨a.hh.trans b.hh, a.nn.trans b.nn, b.nh, fun x h => by
    rcases b.nw x h with q | q
    · exact a.nw x q
    · exact .inr (a.hh.free q)⟩
theorem Gr.new {N H : Hp} {p : Addr} {o : HO} (e : Inn N H) (h : H p = none) (ho : ntb o = true := by rfl) : Gr N H (upd N p o) (upd H p o) := by
  refine ⟨(Hh.refl H).upd h, fun b u q => by rw [upd_ne (ne_of_none (e b u q) h)]; exact q, e.new h ho, fun b q => ?_⟩
  · by_cases hb : b = p
    · subst hb; exact .inr h
    · rw [upd_ne hb] at q; exact .inl q
theorem Gr.newH {N H : Hp} {p : Addr} {o : HO} (e : Inn N H) (h : H p = none) : Gr N H N (upd H p o) := ⟨(Hh.refl H).upd h, Same.refl _, e.newH h, fun a q => .inl q⟩
theorem Inn.low {M1 M H : Hp} (I : Inn M H) (e : Sub M1 M) : Inn M1 H := ⟨e.trans I.sub, I.tt, fun b o q => I.nt b o (e b o q)⟩
/-- what an item made, beside what stood -/
theorem Gr.join {M1 M Hi Nx Hx : Hp} (gx : Gr M1 Hi Nx Hx) (I : Inn M Hi) (e : Sub M1 M) : Gr M Hi (fun a => if Nx a = Option.none then M a else Nx a) Hx := by
  have I' : Inn M Hx := ⟨fun b o q => gx.hh.to b o (I b o q) (I.nt b o q), gx.nh.tt, I.nt⟩
  refine ⟨gx.hh, fun a o q => ?_, ⟨fun a o q => ?_, gx.nh.tt, fun a o q => ?_⟩, fun a q => ?_⟩
  · show (if Nx a = Option.none then M a else Nx a) = some o
    by_cases hz : Nx a = Option.none
    · rw [if_pos hz]; exact q
    · rw [if_neg hz]
      cases hq : Nx a with
      | none => exact absurd hq hz
      | some o' =>
        have h1 := gx.nh a o' hq
        have h2 := I' a o q
        rw [h1] at h2
        exact h2
  · have q' : (if Nx a = Option.none then M a else Nx a) = some o := q
    by_cases hz : Nx a = Option.none
    · rw [if_pos hz] at q'; exact I' a o q'
    · rw [if_neg hz] at q'; exact gx.nh a o q'
  · have q' : (if Nx a = Option.none then M a else Nx a) = some o := q
    by_cases hz : Nx a = Option.none
    · rw [if_pos hz] at q'; exact I.nt a o q'
    · rw [if_neg hz] at q'; exact gx.nh.nt a o q'
  · have q' : (if Nx a = Option.none then M a else Nx a) ≠ Option.none := q
    by_cases hz : Nx a = Option.none
    · rw [if_pos hz] at q'; exact .inl q'
    · rcases gx.nw a hz with h1 | h1
      · cases hq : M1 a with
        | none => exact absurd hq h1
        | some o => exact .inl (by rw [e a o hq]; simp)
      · exact .inr h1
theorem Inn.ext {N H H' : Hp} (I : Inn N H) (e : ∀ b o, H b = some o → H' b = some o) : Inn N H' := ⟨fun b o q => e b o (I b o q), I.tt.ext e, I.nt⟩
theorem Hh.upd2 {H H' : Hp} {D : Addr} {o : HO} (e : Hh H H') : Hh (L2.upd H D o) (L2.upd H' D o) := ⟨fun b u q n => by
  by_cases hb : b = D
  · subst hb; rw [upd_same] at q ⊢; exact q
  · rw [upd_ne hb] at q ⊢; exact e.to b u q n, fun b q => by
  by_cases hb : b = D
  · subst hb; rw [upd_same] at q; cases q
  · rw [upd_ne hb] at q ⊢; exact e.ne b q⟩
theorem Hh.upd3 {H H' : Hp} {D : Addr} {o u : HO} (e : Hh (L2.upd H D o) H') : Hh (L2.upd H D u) (L2.upd H' D u) := by
  have := e.upd2 (D := D) (o := u)
  rwa [show L2.upd (L2.upd H D o) D u = L2.upd H D u from upd_upd] at this
theorem Hh.unupd {H H' : Hp} {D : Addr} {o : HO} (e : Hh (L2.upd H D o) H') (h : H D = Option.none) : Hh H H' := ((Hh.refl H).upd h).trans e
theorem Gr.keep {N H N' H' : Hp} (g : Gr N H N' H') {a : Addr} {o : HO} (h : N a = some o) : H' a = some o := g.nh a o (g.nn a o h)
/-- what stood within H goes on -/
theorem Gr.up {N H N' H' M : Hp} (g : Gr N H N' H') (e : Inn M H) : Inn M H' := ⟨fun b o q => g.hh.to b o (e b o q) (e.nt b o q), g.nh.tt, e.nt⟩
end
theorem sq_mono {K : PySem.W.Frag} {H H' : Hp} {a : Addr} {xs : List V} (e : Sub H H') (h : SqL K H a xs) : SqL K H' a xs := e.seq h
/-- a tuple that stands as it is, or one of the module -/
def SqP (K : PySem.W.Frag) (H : Hp) (a : Addr) (xs : List V) : Prop :=
  H a = some (.tup xs) ∨
    ∃ (o : Obj) (its : Array Value) (n : Nat), K.lookup a = some o ∧ o.cls = .type "tuple" ∧ o.data = .seq its n ∧ its.size ≤ sizeLine ∧ Vals xs its.toList
theorem SqP.of {K : PySem.W.Frag} {H : Hp} {a : Addr} {xs : List V} (h : H a = some (.tup xs)) : SqP K H a xs := .inl h
theorem sp_mono {K : PySem.W.Frag} {H H' : Hp} {a : Addr} {xs : List V} (e : Sub H H') (h : SqP K H a xs) : SqP K H' a xs := Or.imp (e _ _) id h
theorem st_mono {K : PySem.W.Frag} {H H' : Hp} {a : Addr} {xs : List V} (e : Sub H H') (h : SqP K H a xs) : SqT K H' a xs := Or.imp (fun h => .inl (e _ _ h)) id h
/-- a dict that may be read -/
def SqD (H : Hp) (a : Addr) (kvs : List (L2.Key × V)) : Prop := L2.Rd H a (.dK kvs)
theorem SqD.mono {H H' : Hp} {a : Addr} {kvs : List (L2.Key × V)} (e : ∀ b o, H b = some o → H' b = some o) (h : SqD H a kvs) : SqD H' a kvs := Or.imp (e _ _) (fun ⟨o, q⟩ => ⟨o, e _ _ q⟩) h
theorem SqD.get {H : Hp} {a : Addr} {kvs : List (L2.Key × V)} {k : L2.Key} (h : SqD H a kvs) : DGet H a (L2.kV k) (L2.valV kvs k) := .inl ⟨kvs, k, h, rfl, rfl⟩
mutual
inductive RV (K : PySem.W.Frag) (N : Hp) : V → Val → Prop
  | non : RV K N .non .non
  | bl (b : Bool) : RV K N (.bl b) (.bl b)
  | int (i : Int) : RV K N (.int i) (.int i)
  | str (x : Str) : RV K N (.str x) (.str x)
  | tup {a : Addr} {vs : List V} {xs : List Val} : SqP K N a vs → RVs K N vs xs → RV K N (.ref a) (.tup xs)
  | lst {a : Addr} {vs : List V} {xs : List Val} : SqL K N a vs → RVs K N vs xs → RV K N (.ref a) (.lst xs)
  | dct {a : Addr} {kvs : List (L2.Key × V)} {ys : List (Key × Val)} : SqD N a kvs → RKs K N kvs ys → RV K N (.ref a) (.dct ys)
  | dck {a : Addr} {od : Obj} {kvs : List (L2.Key × V)} {ys : List (Key × Val)} : N a = some (.frz od (.dK kvs)) → RKs K N kvs ys → RV K N (.ref a) (.dck ys)
  | dcT {a : Addr} {kvs : List (List L2.Key × V)} {ys : List (List Key × Val)} : N a = some (.dT kvs) → RTs K N kvs ys → RV K N (.ref a) (.dcT ys)
  | ob {a dx : Addr} {c : Str} {fs : List (Str × V)} {ys : List (Str × Val)} : N a = some (.ins (He.ga K c) dx fs) → RFs K N fs ys → RV K N (.ref a) (.ob c ys)
inductive RVs (K : PySem.W.Frag) (N : Hp) : List V → List Val → Prop
  | nil : RVs K N [] []
  | cons {v : V} {vs : List V} {x : Val} {xs : List Val} : RV K N v x → RVs K N vs xs → RVs K N (v :: vs) (x :: xs)
inductive RKs (K : PySem.W.Frag) (N : Hp) : List (L2.Key × V) → List (Key × Val) → Prop
  | nil : RKs K N [] []
  | cons {k : Key} {v : V} {vs : List (L2.Key × V)} {x : Val} {xs : List (Key × Val)} : RV K N v x → RKs K N vs xs → RKs K N ((k, v) :: vs) ((k, x) :: xs)
inductive RTs (K : PySem.W.Frag) (N : Hp) : List (List L2.Key × V) → List (List Key × Val) → Prop
  | nil : RTs K N [] []
  | cons {k : List Key} {v : V} {vs : List (List L2.Key × V)} {x : Val} {xs : List (List Key × Val)} : RV K N v x → RTs K N vs xs → RTs K N ((k, v) :: vs) ((k, x) :: xs)
inductive RFs (K : PySem.W.Frag) (N : Hp) : List (Str × V) → List (Str × Val) → Prop
  | nil : RFs K N [] []
  | cons {k : Str} {v : V} {vs : List (Str × V)} {x : Val} {xs : List (Str × Val)} : RV K N v x → RFs K N vs xs → RFs K N ((k, v) :: vs) ((k, x) :: xs)
end
section
variable {K : PySem.W.Frag} {N N' : Hp}
mutual
theorem RV.mono (e : Sub N N') : ∀ (x : Val) {v : V}, RV K N v x → RV K N' v x
  | .non, _, .non => .non
  | .bl _, _, .bl b => .bl b
  | .int _, _, .int i => .int i
  | .str _, _, .str x => .str x
  | .tup xs, _, .tup h r => .tup (sp_mono e h) (RVs.mono e xs r)
  | .lst xs, _, .lst h r => .lst (sq_mono e h) (RVs.mono e xs r)
  | .dct xs, _, .dct h r => .dct (h.mono e) (RKs.mono e xs r)
  | .dck xs, _, .dck h r => .dck (e _ _ h) (RKs.mono e xs r)
  | .dcT xs, _, .dcT h r => .dcT (e _ _ h) (RTs.mono e xs r)
  | .ob c xs, _, .ob h r => .ob (e _ _ h) (RFs.mono e xs r)
theorem RVs.mono (e : Sub N N') : ∀ (xs : List Val) {vs : List V}, RVs K N vs xs → RVs K N' vs xs
  | [], _, .nil => .nil
  | x :: xs, _, .cons h r => .cons (RV.mono e x h) (RVs.mono e xs r)
theorem RKs.mono (e : Sub N N') : ∀ (xs : List (Key × Val)) {vs : List (L2.Key × V)}, RKs K N vs xs → RKs K N' vs xs
  | [], _, .nil => .nil
  | (_, x) :: xs, _, .cons h r => .cons (RV.mono e x h) (RKs.mono e xs r)
theorem RTs.mono (e : Sub N N') : ∀ (xs : List (List Key × Val)) {vs : List (List L2.Key × V)}, RTs K N vs xs → RTs K N' vs xs
  | [], _, .nil => .nil
  | (_, x) :: xs, _, .cons h r => .cons (RV.mono e x h) (RTs.mono e xs r)
theorem RFs.mono (e : Sub N N') : ∀ (xs : List (Str × Val)) {vs : List (Str × V)}, RFs K N vs xs → RFs K N' vs xs
  | [], _, .nil => .nil
  | (_, x) :: xs, _, .cons h r => .cons (RV.mono e x h) (RFs.mono e xs r)
end
theorem RVs.length : ∀ {vs : List V} {xs : List Val}, RVs K N vs xs → vs.length = xs.length
  | _, _, .nil => rfl
  | _, _, .cons _ r => congrArg (· + 1) r.length
theorem RVs.append : ∀ {vs ws : List V} {xs ys : List Val}, RVs K N vs xs → RVs K N ws ys → RVs K N (vs ++ ws) (xs ++ ys)
  | _, _, _, _, .nil, s => s
  | _, _, _, _, .cons h r, s => .cons h (r.append s)
theorem RVs.get : ∀ {vs : List V} {xs : List Val} {i : Nat} {x : Val}, RVs K N vs xs → xs[i]? = some x → ∃ v, vs[i]? = some v ∧ RV K N v x
  | _, _, _, _, .nil, e => by simp at e
  | _, _, 0, _, .cons h _, e => by simp at e; subst e; exact ⟨_, rfl, h⟩
  | _, _, i + 1, x, .cons _ r, e => by
    obtain ⟨v, h1, h2⟩ := r.get (i := i) (x := x) (by simpa using e)
    exact ⟨v, by simpa using h1, h2⟩
theorem RVs.getV : ∀ {vs : List V} {xs : List Val} {i : Nat} {v : V}, RVs K N vs xs → vs[i]? = some v → ∃ x, xs[i]? = some x ∧ RV K N v x
  | _, _, _, _, .nil, e => by simp at e
  | _, _, 0, _, .cons h _, e => by simp at e; subst e; exact ⟨_, rfl, h⟩
  | _, _, i + 1, x, .cons _ r, e => by
    obtain ⟨v, h1, h2⟩ := r.getV (i := i) (v := x) (by simpa using e)
    exact ⟨v, by simpa using h1, h2⟩
theorem RVs.take : ∀ {vs : List V} {xs : List Val} (n : Nat), RVs K N vs xs → RVs K N (vs.take n) (xs.take n)
  | _, _, 0, _ => .nil
  | _, _, _ + 1, .nil => .nil
  | _, _, n + 1, .cons h r => .cons h (r.take n)
theorem RVs.drop : ∀ {vs : List V} {xs : List Val} (n : Nat), RVs K N vs xs → RVs K N (vs.drop n) (xs.drop n)
  | _, _, 0, r => r
  | _, _, _ + 1, .nil => .nil
  | _, _, n + 1, .cons _ r => r.drop n
/-- flat values -/
def toV : Val → V
  | .bl b => .bl b
  | .int i => .int i
  | .str x => .str x
  | _ => .non
theorem RV.flat {v : V} {x : Val} (r : RV K N v x) (h : x.isFlat = true) : v = toV x ∧ flatV v = true := by
  cases r <;> first
    | exact ⟨rfl, rfl⟩
    | exact absurd h (by simp [Val.isFlat])
theorem RVs.flats : ∀ {vs : List V} {xs : List Val}, RVs K N vs xs → xs.all Val.isFlat = true → vs = xs.map toV ∧ vs.all flatV = true
  | _, _, .nil, _ => ⟨rfl, rfl⟩
  | _, _, .cons h r, e => by
    rw [List.all_cons, Bool.and_eq_true] at e
    obtain ⟨h1, h2⟩ := h.flat e.1
    obtain ⟨h3, h4⟩ := r.flats e.2
    exact ⟨by rw [List.map_cons, ← h1, ← h3], by rw [List.all_cons, h2, h4]; rfl⟩
theorem eqV_of {x y : Val} (hx : x.isFlat = true) (hy : y.isFlat = true) : eqV (toV x) (toV y) = eqv x y := by
  cases x <;> cases y <;> first
    | rfl
    | (simp [Val.isFlat] at hx; done)
    | (simp [Val.isFlat] at hy; done)
    | (simp [toV, eqV, eqv, b2i]; done)
theorem inV_of {x : Val} {xs : List Val} (hx : x.isFlat = true) (hs : xs.all Val.isFlat = true) : inV (toV x) (xs.map toV) = inFlat x xs := by
  unfold inV inFlat
  rw [List.any_map]
  induction xs with
  | nil => rfl
  | cons y ys ih =>
    rw [List.all_cons, Bool.and_eq_true] at hs
    rw [List.any_cons, List.any_cons, ih hs.2]
    congr 1
    exact eqV_of hs.1 hx
mutual
def toD : Val → PyData
  | .non => .none
  | .bl b => .bool b
  | .int i => .int i
  | .str x => .str x
  | .tup xs => .tuple (toDs xs)
  | .lst xs => .list (toDs xs)
  | .dct _ => .none
  | .dcT _ => .none
  | .dck _ => .none
  | .ob _ _ => .none
def toDs : List Val → List PyData
  | [] => []
  | x :: xs => toD x :: toDs xs
end
mutual
theorem eqv_toD : ∀ (x y : Val), x.isData = true → y.isData = true → PyData.eqv (toD x) (toD y) = eqv x y
  | .non, y, _, hy => by cases y <;> first | rfl | (simp [Val.isData] at hy; done) | (simp [toD, PyData.eqv, eqv]; done)
  | .bl b, y, _, hy => by cases y <;> first | rfl | (simp [Val.isData] at hy; done) | (simp [toD, PyData.eqv, eqv, b2i]; done)
  | .int b, y, _, hy => by cases y <;> first | rfl | (simp [Val.isData] at hy; done) | (simp [toD, PyData.eqv, eqv, b2i]; done)
  | .str b, y, _, hy => by cases y <;> first | rfl | (simp [toD, PyData.eqv, eqv]; done) | (simp [Val.isData] at hy; done)
  | .tup xs, y, hx, hy => by
    cases y with
    | tup ys =>
      simp only [toD, PyData.eqv, eqv]
      exact eqvs_toDs xs ys hx hy
    | dct _ => simp [Val.isData] at hy
    | dcT _ => simp [Val.isData] at hy
    | dck _ => simp [Val.isData] at hy
    | ob _ _ => simp [Val.isData] at hy
    | _ => simp [toD, PyData.eqv, eqv]
  | .lst xs, y, hx, hy => by
    cases y with
    | lst ys =>
      simp only [toD, PyData.eqv, eqv]
      exact eqvs_toDs xs ys hx hy
    | dct _ => simp [Val.isData] at hy
    | dcT _ => simp [Val.isData] at hy
    | dck _ => simp [Val.isData] at hy
    | ob _ _ => simp [Val.isData] at hy
    | _ => simp [toD, PyData.eqv, eqv]
  | .dct _, _, hx, _ => by simp [Val.isData] at hx
  | .dcT _, _, hx, _ => by simp [Val.isData] at hx
  | .dck _, _, hx, _ => by simp [Val.isData] at hx
  | .ob _ _, _, hx, _ => by simp [Val.isData] at hx
theorem eqvs_toDs : ∀ (xs ys : List Val), Val.isDatas xs = true → Val.isDatas ys = true → PyData.eqvAll (toDs xs) (toDs ys) = eqvs xs ys
  | [], [], _, _ => rfl
  | [], _ :: _, _, _ => rfl
  | _ :: _, [], _, _ => rfl
  | x :: xs, y :: ys, hx, hy => by
    simp only [Val.isDatas, Bool.and_eq_true] at hx hy
    simp only [toDs, PyData.eqvAll, eqvs]
    rw [eqv_toD x y hx.1 hy.1, eqvs_toDs xs ys hx.2 hy.2]
end
mutual
theorem canLay_toD : ∀ (x : Val), x.isData = true → (toD x).canLay0 = true
  | .non, _ => rfl
  | .bl _, _ => rfl
  | .int _, _ => rfl
  | .str x, h => by simp only [toD, PyData.canLay0, PyData.strOk]; exact h
  | .dct _, h => by simp [Val.isData] at h
  | .dcT _, h => by simp [Val.isData] at h
  | .dck _, h => by simp [Val.isData] at h
  | .ob _ _, h => by simp [Val.isData] at h
  | .tup xs, h => by simp only [toD, PyData.canLay0]; exact canLays_toDs xs h
  | .lst xs, h => by simp only [toD, PyData.canLay0]; exact canLays_toDs xs h
theorem canLays_toDs : ∀ (xs : List Val), Val.isDatas xs = true → PyData.canLayAll0 (toDs xs) = true
  | [], _ => rfl
  | x :: xs, h => by
    simp only [Val.isDatas, Bool.and_eq_true] at h
    simp only [toDs, PyData.canLayAll0, canLay_toD x h.1, canLays_toDs xs h.2, Bool.and_self]
end
mutual
theorem depth_toD : ∀ (x : Val), (toD x).depth = x.depth
  | .non => rfl
  | .bl _ => rfl
  | .int _ => rfl
  | .str _ => rfl
  | .dct _ => rfl
  | .dcT _ => rfl
  | .dck _ => rfl
  | .ob _ _ => rfl
  | .tup xs => by simp only [toD, PyData.depth, Val.depth]; rw [depths_toDs xs]
  | .lst xs => by simp only [toD, PyData.depth, Val.depth]; rw [depths_toDs xs]
theorem depths_toDs : ∀ (xs : List Val), PyData.depthAll (toDs xs) = Val.depths xs
  | [] => rfl
  | x :: xs => by simp only [toDs, PyData.depthAll, Val.depths]; rw [depth_toD x, depths_toDs xs]
end
theorem shaped_toD {x : Val} (hd : x.isData = true) (h : x.depth ≤ 64) : SeqAt.shaped (toD x) = true := by
  unfold SeqAt.shaped
  rw [canLay_toD x hd, depth_toD, decide_eq_true h]
  rfl
theorem RV.scal {v w : V} {x y : Val} (rx : RV K N v x) (ry : RV K N w y) (h : scal2 x y = true) : L2.scal v w = true ∧ decide (v = w) = eqv x y := by
  cases rx <;> cases ry <;> first
    | (simp [scal2, Val.isFlat] at h; done)
    | (refine ⟨rfl, ?_⟩; simp [eqv]; done)
    | (refine ⟨rfl, ?_⟩; simp [eqv]; rfl)
    | (refine ⟨rfl, ?_⟩; rename_i a b; cases a <;> cases b <;> rfl)
mutual
theorem RV.dp : ∀ (x : Val) {v : V}, RV K N v x → x.isData = true → Dp K N v (toD x)
  | .non, _, .non, _ => .non
  | .bl _, _, .bl b, _ => .bl b
  | .int _, _, .int b, _ => .int b
  | .str _, _, .str b, _ => .str b
  | .tup xs, _, .tup h r, e => .tup (st_mono (Same.refl _) h) (RVs.dp xs r e)
  | .lst xs, _, .lst h r, e => .lst h (RVs.dp xs r e)
  | .dct _, _, .dct _ _, e => by simp [Val.isData] at e
  | .dcT _, _, .dcT _ _, e => by simp [Val.isData] at e
  | .dck _, _, .dck _ _, e => by simp [Val.isData] at e
  | .ob _ _, _, .ob _ _, e => by simp [Val.isData] at e
theorem RVs.dp : ∀ (xs : List Val) {vs : List V}, RVs K N vs xs → Val.isDatas xs = true → DpAll K N vs (toDs xs)
  | [], _, .nil, _ => .nil
  | x :: xs, _, .cons h r, e => by
    simp only [Val.isDatas, Bool.and_eq_true] at e
    exact .cons (RV.dp x h e.1) (RVs.dp xs r e.2)
end
theorem intsOf_eq : ∀ {xs : List Val} {ns : List Int}, intsOf xs = some ns → xs = ns.map Val.int
  | [], ns, h => by simp [intsOf] at h; subst h; rfl
  | x :: xs, ns, h => by
    cases x with
    | int i =>
      simp only [intsOf, Option.map_eq_some_iff] at h
      obtain ⟨ms, h1, h2⟩ := h
      subst h2
      rw [List.map_cons, ← intsOf_eq h1]
    | _ => simp [intsOf] at h
theorem RVs.ofInts : ∀ {vs : List V} {ns : List Int}, RVs K N vs (ns.map Val.int) → vs = ns.map V.int
  | _, [], .nil => rfl
  | _, _ :: _, .cons (.int _) r => by rw [List.map_cons, ← r.ofInts]
theorem blsOf_eq : ∀ {xs : List Val} {ns : List Bool}, blsOf xs = some ns → xs = ns.map Val.bl
  | [], ns, h => by simp [blsOf] at h; subst h; rfl
  | x :: xs, ns, h => by
    cases x with
    | bl i =>
      simp only [blsOf, Option.map_eq_some_iff] at h
      obtain ⟨ms, h1, h2⟩ := h
      subst h2
      rw [List.map_cons, ← blsOf_eq h1]
    | _ => simp [blsOf] at h
theorem RVs.ofBls : ∀ {vs : List V} {ns : List Bool}, RVs K N vs (ns.map Val.bl) → vs = ns.map V.bl
  | _, [], .nil => rfl
  | _, _ :: _, .cons (.bl _) r => by rw [List.map_cons, ← r.ofBls]
end
inductive SV (K : PySem.W.Frag) (N : Hp) : L2.St → Env → Prop
  | nil : SV K N [] []
  | un {s : Option V} {σ : L2.St} {env : Env} : SV K N σ env → SV K N (s :: σ) (.un :: env)
  | sh {v : V} {x : Val} {σ : L2.St} {env : Env} : RV K N v x → SV K N σ env → SV K N (some v :: σ) (.sh x :: env)
  | oL {v : V} {xs : List Val} {σ : L2.St} {env : Env} : RV K N v (.lst xs) → SV K N σ env → SV K N (some v :: σ) (.oL xs :: env)
  | oD {v : V} {xs : List (Key × Val)} {σ : L2.St} {env : Env} : RV K N v (.dct xs) → SV K N σ env → SV K N (some v :: σ) (.oD xs :: env)
  | oT {v : V} {t : Tr} {σ : L2.St} {env : Env} : RV K N v t.val → SV K N σ env → SV K N (some v :: σ) (.oT t :: env)
  | me {v : V} {t : Tr} {σ : L2.St} {env : Env} : RV K N v t.val → SV K N σ env → SV K N (some v :: σ) (.me t :: env)
section
variable {K : PySem.W.Frag} {N N' : Hp} {σ : L2.St} {env : Env}
theorem SV.mono (e : Sub N N') (h : SV K N σ env) : SV K N' σ env := by
  induction h with
  | nil => exact .nil
  | un _ ih => exact .un ih
  | sh r _ ih => exact .sh (r.mono e) ih
  | oL r _ ih => exact .oL (r.mono e) ih
  | oD r _ ih => exact .oD (r.mono e) ih
  | oT r _ ih => exact .oT (r.mono e) ih
  | me r _ ih => exact .me (r.mono e) ih
theorem SV.len (h : SV K N σ env) : σ.length = env.length := by
  induction h with
  | nil => rfl
  | un _ ih => exact congrArg (· + 1) ih
  | sh r _ ih => exact congrArg (· + 1) ih
  | oL r _ ih => exact congrArg (· + 1) ih
  | oD r _ ih => exact congrArg (· + 1) ih
  | oT r _ ih => exact congrArg (· + 1) ih
  | me r _ ih => exact congrArg (· + 1) ih
theorem SV.sh_at (h : SV K N σ env) {i : Nat} {x : Val} (e : env[i]? = some (.sh x)) : ∃ v, σ[i]? = some (some v) ∧ RV K N v x := by
  induction h generalizing i with
  | nil => simp at e
  | un _ ih =>
    cases i with
    | zero => simp at e
    | succ i => simpa using ih (by simpa using e)
  | sh r _ ih =>
    cases i with
    | zero => simp at e; subst e; exact ⟨_, rfl, r⟩
    | succ i => simpa using ih (by simpa using e)
  | oL r _ ih =>
    cases i with
    | zero => simp at e
    | succ i => simpa using ih (by simpa using e)
  | oD r _ ih =>
    cases i with
    | zero => simp at e
    | succ i => simpa using ih (by simpa using e)
  | oT r _ ih =>
    cases i with
    | zero => simp at e
    | succ i => simpa using ih (by simpa using e)
  | me r _ ih =>
    cases i with
    | zero => simp at e
    | succ i => simpa using ih (by simpa using e)
theorem SV.oL_at (h : SV K N σ env) {i : Nat} {x : List Val} (e : env[i]? = some (.oL x)) : ∃ v, σ[i]? = some (some v) ∧ RV K N v (.lst x) := by
  induction h generalizing i with
  | nil => simp at e
  | un _ ih =>
    cases i with
    | zero => simp at e
    | succ i => simpa using ih (by simpa using e)
  | oL r _ ih =>
    cases i with
    | zero => simp at e; subst e; exact ⟨_, rfl, r⟩
    | succ i => simpa using ih (by simpa using e)
  | sh r _ ih =>
    cases i with
    | zero => simp at e
    | succ i => simpa using ih (by simpa using e)
  | oD r _ ih =>
    cases i with
    | zero => simp at e
    | succ i => simpa using ih (by simpa using e)
  | oT r _ ih =>
    cases i with
    | zero => simp at e
    | succ i => simpa using ih (by simpa using e)
  | me r _ ih =>
    cases i with
    | zero => simp at e
    | succ i => simpa using ih (by simpa using e)
theorem SV.oD_at (h : SV K N σ env) {i : Nat} {x : List (Key × Val)} (e : env[i]? = some (.oD x)) : ∃ v, σ[i]? = some (some v) ∧ RV K N v (.dct x) := by
  induction h generalizing i with
  | nil => simp at e
  | un _ ih =>
    cases i with
    | zero => simp at e
    | succ i => simpa using ih (by simpa using e)
  | oD r _ ih =>
    cases i with
    | zero => simp at e; subst e; exact ⟨_, rfl, r⟩
    | succ i => simpa using ih (by simpa using e)
  | sh r _ ih =>
    cases i with
    | zero => simp at e
    | succ i => simpa using ih (by simpa using e)
  | oL r _ ih =>
    cases i with
    | zero => simp at e
    | succ i => simpa using ih (by simpa using e)
  | oT r _ ih =>
    cases i with
    | zero => simp at e
    | succ i => simpa using ih (by simpa using e)
  | me r _ ih =>
    cases i with
    | zero => simp at e
    | succ i => simpa using ih (by simpa using e)
theorem SV.oT_at (h : SV K N σ env) {i : Nat} {x : Tr} (e : env[i]? = some (.oT x)) : ∃ v, σ[i]? = some (some v) ∧ RV K N v x.val := by
  induction h generalizing i with
  | nil => simp at e
  | un _ ih =>
    cases i with
    | zero => simp at e
    | succ i => simpa using ih (by simpa using e)
  | oT r _ ih =>
    cases i with
    | zero => simp at e; subst e; exact ⟨_, rfl, r⟩
    | succ i => simpa using ih (by simpa using e)
  | sh r _ ih =>
    cases i with
    | zero => simp at e
    | succ i => simpa using ih (by simpa using e)
  | oL r _ ih =>
    cases i with
    | zero => simp at e
    | succ i => simpa using ih (by simpa using e)
  | oD r _ ih =>
    cases i with
    | zero => simp at e
    | succ i => simpa using ih (by simpa using e)
  | me r _ ih =>
    cases i with
    | zero => simp at e
    | succ i => simpa using ih (by simpa using e)
theorem SV.me_at (h : SV K N σ env) {i : Nat} {x : Tr} (e : env[i]? = some (.me x)) : ∃ v, σ[i]? = some (some v) ∧ RV K N v x.val := by
  induction h generalizing i with
  | nil => simp at e
  | un _ ih =>
    cases i with
    | zero => simp at e
    | succ i => simpa using ih (by simpa using e)
  | me r _ ih =>
    cases i with
    | zero => simp at e; subst e; exact ⟨_, rfl, r⟩
    | succ i => simpa using ih (by simpa using e)
  | sh r _ ih =>
    cases i with
    | zero => simp at e
    | succ i => simpa using ih (by simpa using e)
  | oL r _ ih =>
    cases i with
    | zero => simp at e
    | succ i => simpa using ih (by simpa using e)
  | oD r _ ih =>
    cases i with
    | zero => simp at e
    | succ i => simpa using ih (by simpa using e)
  | oT r _ ih =>
    cases i with
    | zero => simp at e
    | succ i => simpa using ih (by simpa using e)
theorem SV.set_sh (h : SV K N σ env) {i : Nat} {v : V} {x : Val} (r : RV K N v x) : SV K N (σ.set i (some v)) (env.set i (.sh x)) := by
  induction h generalizing i with
  | nil => exact .nil
  | un t ih =>
    cases i with
    | zero => exact .sh r t
    | succ i => exact .un ih
  | sh q t ih =>
    cases i with
    | zero => exact .sh r t
    | succ i => exact .sh q ih
  | oL q t ih =>
    cases i with
    | zero => exact .sh r t
    | succ i => exact .oL q ih
  | oD q t ih =>
    cases i with
    | zero => exact .sh r t
    | succ i => exact .oD q ih
  | oT q t ih =>
    cases i with
    | zero => exact .sh r t
    | succ i => exact .oT q ih
  | me q t ih =>
    cases i with
    | zero => exact .sh r t
    | succ i => exact .me q ih
theorem SV.set_un (h : SV K N σ env) {i : Nat} {s : Option V} : SV K N (σ.set i s) (env.set i .un) := by
  induction h generalizing i with
  | nil => exact .nil
  | un t ih =>
    cases i with
    | zero => exact .un t
    | succ i => exact .un ih
  | sh q t ih =>
    cases i with
    | zero => exact .un t
    | succ i => exact .sh q ih
  | oL q t ih =>
    cases i with
    | zero => exact .un t
    | succ i => exact .oL q ih
  | oD q t ih =>
    cases i with
    | zero => exact .un t
    | succ i => exact .oD q ih
  | oT q t ih =>
    cases i with
    | zero => exact .un t
    | succ i => exact .oT q ih
  | me q t ih =>
    cases i with
    | zero => exact .un t
    | succ i => exact .me q ih
theorem SV.wipe (h : SV K N σ env) : ∀ (vs : List Nat), SV K N (L2.wipe σ vs) (wipeE env vs)
  | [] => h
  | v :: vs => (SV.wipe h vs).set_un
end
end Vm
namespace Vm
open PySem L2
variable [TabsOf]
/-- how an exception lies: heap, class, its dict -/
abbrev XRel := Hp → Value → Option Addr → Exn → Prop
structure Cn where
  XR : XRel
  W : Option WX
def ExcP (C : Cn) (σ : L2.St) (N H : Hp) (e : Exn) : Prop := ∃ w, C.W = some w ∧ ∀ cls d N' H', Gr N H N' H' → C.XR H' cls d e → w cls d σ H'
def PostR {α : Type} (C : Cn) (σ : L2.St) (N H : Hp) (r : Res α) (P : α → Hp → Hp → Prop) : Prop := match r with
  | .ok x => ∀ N' H', Gr N H N' H' → P x N' H'
  | .exc e => ExcP C σ N H e
  | .bad => False
section
variable {α β : Type} {C : Cn} {σ : L2.St} {N H N1 H1 : Hp} {r : Res α} {P : α → Hp → Hp → Prop}
theorem ExcP.step {e : Exn} (g : Gr N H N1 H1) (h : ExcP C σ N H e) : ExcP C σ N1 H1 e := by
  obtain ⟨w, h1, h2⟩ := h
  exact ⟨w, h1, fun cls d N' H' g' => h2 cls d N' H' (g.trans g')⟩
theorem PostR.step (g : Gr N H N1 H1) (h : PostR C σ N H r P) : PostR C σ N1 H1 r P := by
  cases r with
  | ok x => exact fun N' H' g' => h N' H' (g.trans g')
  | exc e => exact ExcP.step g h
  | bad => exact h
theorem PostR.now {x : α} (e : Inn N H) (h : PostR C σ N H (.ok x) P) : P x N H := h N H (Gr.refl e)
theorem PostR.imp {P' : α → Hp → Hp → Prop} (h : PostR C σ N H r P) (k : ∀ x N' H', Gr N H N' H' → P x N' H' → P' x N' H') : PostR C σ N H r P' := by
  cases r with
  | ok x => exact fun N' H' g' => k x N' H' g' (h N' H' g')
  | exc e => exact h
  | bad => exact h
/-- the first part's end, where the second part's is wanted -/
theorem PostR.bind {f : α → Res β} {P : β → Hp → Hp → Prop} (h : PostR C σ N H (r.bind f) P) : PostR C σ N H r (fun x N' H' => PostR C σ N' H' (f x) P) := by
  cases r with
  | ok x => exact fun N' H' g' => PostR.step g' h
  | exc e => exact h
  | bad => exact h
end
/-- an expression -/
def EvE (K : PySem.W.Frag) (C : Cn) (te : TE) (m : EX) : Prop := ∀ N H σ env, Inn N H → SV K N σ env → ∀ Q : VK, PostR C σ N H (m env) (fun x N' H' => ∀ v, RV K N' v x → Q v H') → te σ H Q
def EvB (K : PySem.W.Frag) (C : Cn) (tt : TT) (m : EB) : Prop := ∀ N H σ env, Inn N H → SV K N σ env → ∀ Q : Bool → Hp → Prop, PostR C σ N H (m env) (fun x _ H' => Q x H') → tt σ H Q
def EvA (K : PySem.W.Frag) (C : Cn) (ta : TA) (m : EL) : Prop := ∀ N H σ env, Inn N H → SV K N σ env → ∀ Q : List V → Hp → Prop, PostR C σ N H (m env) (fun xs N' H' => ∀ vs, RVs K N' vs xs → Q vs H') → ta σ H Q
/-- a list that is made -/
def EvF (K : PySem.W.Frag) (C : Cn) (te : TE) (m : EX) : Prop := ∀ N H σ env, Inn N H → SV K N σ env → ∀ Q : VK, PostR C σ N H (m env) (fun x N' H' => ∃ xs, x = .lst xs ∧ ∀ p vs, H' p = none → RVs K N' vs xs → Q (.ref p) (upd H' p (.lst vs))) → te σ H Q
structure SE (X : Cx) (C : Cn) (e : Expr) (te : TE) (m : EX) : Prop where
  pe : PE X e te
  ev : EvE X.K C te m
structure SB (X : Cx) (C : Cn) (e : Expr) (te : TT) (m : EB) : Prop where
  pe : PT X e te
  ev : EvB X.K C te m
structure SW (X : Cx) (C : Cn) (e : Expr) (te : TT) (m : EB) : Prop where
  pe : PW X e te
  ev : EvB X.K C te m
structure SA (X : Cx) (C : Cn) (es : List Expr) (te : TA) (m : EL) : Prop where
  pe : PA X es te
  ev : EvA X.K C te m
structure SF (X : Cx) (C : Cn) (e : Expr) (te : TE) (m : EX) : Prop where
  pe : PE X e te
  ev : EvF X.K C te m
/-- what an operation on values does -/
def OpS (K : PySem.W.Frag) (r : R2) (f : Val → Val → Res Val) : Prop := ∀ N H, Inn N H → ∀ v w x y, RV K N v x → RV K N w y → ∀ Q : VK, (∃ z, f x y = .ok z ∧ ∀ N' H', Gr N H N' H' → ∀ u, RV K N' u z → Q u H') → r v w H Q
def UnS (K : PySem.W.Frag) (r : V → Hp → VK → Prop) (f : Val → Res Val) : Prop := ∀ N H, Inn N H → ∀ v x, RV K N v x → ∀ Q : VK, (∃ z, f x = .ok z ∧ ∀ N' H', Gr N H N' H' → ∀ u, RV K N' u z → Q u H') → r v H Q
def CaS (K : PySem.W.Frag) (r : List V → Hp → VK → Prop) (f : List Val → Res Val) : Prop := ∀ N H, Inn N H → ∀ vs xs, RVs K N vs xs → ∀ Q : VK, (∃ z, f xs = .ok z ∧ ∀ N' H', Gr N H N' H' → ∀ u, RV K N' u z → Q u H') → r vs H Q
/-- f raises nothing -/
def NX {α : Type} (r : Res α) : Prop := ∀ e, r ≠ .exc e
theorem PostR.val {α : Type} {C : Cn} {σ : L2.St} {N H : Hp} {r : Res α} {P : α → Hp → Hp → Prop} (h : PostR C σ N H r P) (n : NX r) : ∃ z, r = .ok z ∧ ∀ N' H', Gr N H N' H' → P z N' H' := by
  cases r with
  | ok x => exact ⟨x, rfl, h⟩
  | exc e => exact absurd rfl (n e)
  | bad => exact h.elim
section
variable {K : PySem.W.Frag} {C : Cn} {ta tb tc : TE} {ma mb mc : EX}
theorem ev_c {v : V} {x : Val} (r : ∀ N, RV K N v x) : EvE K C (tC v) (eC x) := fun N H σ env e s Q h => h N H (Gr.refl e) v (r N)
theorem ev_var {i : Nat} : EvE K C (tVar i) (eVar i) := fun N H σ env e s Q h => by
  unfold eVar at h
  split at h
  · rename_i x hx
    obtain ⟨v, h1, h2⟩ := s.sh_at hx
    exact ⟨v, h1, h N H (Gr.refl e) v h2⟩
  · rename_i x hx
    obtain ⟨v, h1, h2⟩ := s.oL_at hx
    exact ⟨v, h1, h N H (Gr.refl e) v h2⟩
  · rename_i x hx
    obtain ⟨v, h1, h2⟩ := s.oD_at hx
    exact ⟨v, h1, h N H (Gr.refl e) v h2⟩
  · rename_i x hx
    obtain ⟨v, h1, h2⟩ := s.oT_at hx
    exact ⟨v, h1, h N H (Gr.refl e) v h2⟩
  · rename_i x hx
    obtain ⟨v, h1, h2⟩ := s.me_at hx
    exact ⟨v, h1, h N H (Gr.refl e) v h2⟩
  · exact h.elim
theorem ev_op {r : R2} {f : Val → Val → Res Val} (hr : OpS K r f) (n : ∀ x y, NX (f x y)) (ha : EvE K C ta ma) (hb : EvE K C tb mb) : EvE K C (tOp r ta tb) (e2 f ma mb) := fun N H σ env e s Q h => by
  refine ha N H σ env e s _ (PostR.imp (PostR.bind h) fun x N1 H1 g1 h1 v rv => ?_)
  refine hb N1 H1 σ env g1.nh (s.mono g1.nn) _ (PostR.imp (PostR.bind h1) fun y N2 H2 g2 h2 w rw' => ?_)
  exact hr N2 H2 g2.nh v w x y (rv.mono g2.nn) rw' Q (by
    obtain ⟨z, hz, k⟩ := h2.val (n x y)
    exact ⟨z, hz, k⟩)
theorem ev_un {r : V → Hp → VK → Prop} {f : Val → Res Val} (hr : UnS K r f) (n : ∀ x, NX (f x)) (ha : EvE K C ta ma) : EvE K C (tUn r ta) (e1 f ma) := fun N H σ env e s Q h => by
  refine ha N H σ env e s _ (PostR.imp (PostR.bind h) fun x N1 H1 g1 h1 v rv => ?_)
  exact hr N1 H1 g1.nh v x rv Q (h1.val (n x))
theorem ea_nil : EvA K C tNil aNil := fun N H σ env e s Q h => h N H (Gr.refl e) [] .nil
theorem ea_cons {t : TA} {m : EL} (ha : EvE K C ta ma) (hr : EvA K C t m) : EvA K C (tCons ta t) (aCons ma m) := fun N H σ env e s Q h => by
  refine ha N H σ env e s _ (PostR.imp (PostR.bind h) fun x N1 H1 g1 h1 v rv => ?_)
  refine hr N1 H1 σ env g1.nh (s.mono g1.nn) _ (PostR.imp (PostR.bind h1) fun xs N2 H2 g2 h2 vs rvs => ?_)
  exact h2 N2 H2 (Gr.refl g2.nh) (v :: vs) (.cons (rv.mono g2.nn) rvs)
theorem ev_cb {r : List V → Hp → VK → Prop} {f : List Val → Res Val} {t : TA} {m : EL} (hr : CaS K r f) (n : ∀ x, NX (f x)) (ha : EvA K C t m) : EvE K C (tCB r t) (eArgs f m) := fun N H σ env e s Q h => by
  refine ha N H σ env e s _ (PostR.imp (PostR.bind h) fun xs N1 H1 g1 h1 vs rvs => ?_)
  exact hr N1 H1 g1.nh vs xs rvs Q (h1.val (n xs))
theorem eb_test (ha : EvE K C ta ma) : EvB K C (tTest ta) (bVal ma) := fun N H σ env e s Q h => by
  refine ha N H σ env e s _ (PostR.imp (PostR.bind h) fun x N1 H1 g1 h1 v rv => ?_)
  cases rv with
  | bl b => exact ⟨b, rfl, PostR.now g1.nh h1⟩
  | _ => exact h1.elim
theorem eb_and {t u : TT} {m n : EB} (ha : EvB K C t m) (hb : EvB K C u n) : EvB K C (tAnd t u) (bAnd m n) := fun N H σ env e s Q h => by
  refine ha N H σ env e s _ (PostR.imp (PostR.bind h) fun x N1 H1 g1 h1 => ?_)
  cases x with
  | true => exact hb N1 H1 σ env g1.nh (s.mono g1.nn) Q h1
  | false => exact PostR.now (P := fun x _ H' => Q x H') g1.nh h1
theorem eb_or {t u : TT} {m n : EB} (ha : EvB K C t m) (hb : EvB K C u n) : EvB K C (tOr t u) (bOr m n) := fun N H σ env e s Q h => by
  refine ha N H σ env e s _ (PostR.imp (PostR.bind h) fun x N1 H1 g1 h1 => ?_)
  cases x with
  | true => exact PostR.now (P := fun x _ H' => Q x H') g1.nh h1
  | false => exact hb N1 H1 σ env g1.nh (s.mono g1.nn) Q h1
theorem eb_not {t : TT} {m : EB} (ha : EvB K C t m) : EvB K C (tNot t) (bNot m) := fun N H σ env e s Q h => by
  refine ha N H σ env e s _ (PostR.imp (PostR.bind h) fun x N1 H1 g1 h1 => ?_)
  exact PostR.now (P := fun x _ H' => Q x H') g1.nh h1
theorem PostR.asBl {α : Type} {σ : L2.St} {N H : Hp} {x : Val} {f : Bool → Res α} {P : α → Hp → Hp → Prop} (h : PostR C σ N H ((asBl x).bind f) P) : ∃ k, x = .bl k ∧ PostR C σ N H (f k) P := by
  cases x with
  | bl k => exact ⟨k, rfl, h⟩
  | _ => exact h.elim
theorem ev_and (ha : EvE K C ta ma) (hb : EvE K C tb mb) : EvE K C (tAndV ta tb) (eAnd ma mb) := fun N H σ env e s Q h => by
  refine ha N H σ env e s _ (PostR.imp (PostR.bind h) fun x N1 H1 g1 h1 v rv => ?_)
  obtain ⟨k, rfl, h1⟩ := h1.asBl
  cases rv
  refine ⟨k, rfl, ?_⟩
  cases k with
  | true => exact hb N1 H1 σ env g1.nh (s.mono g1.nn) Q h1
  | false => exact h1 N1 H1 (Gr.refl g1.nh) _ (.bl false)
theorem ev_not (ha : EvE K C ta ma) : EvE K C (tNotV ta) (eNot ma) := fun N H σ env e s Q h => by
  refine ha N H σ env e s _ (PostR.imp (PostR.bind h) fun x N1 H1 g1 h1 v rv => ?_)
  obtain ⟨k, rfl, h1⟩ := h1.asBl
  cases rv
  exact ⟨k, rfl, h1 N1 H1 (Gr.refl g1.nh) _ (.bl _)⟩
theorem ev_chain {r r' : R2} {f g : Val → Val → Res Val} (hr : OpS K r f) (hr' : OpS K r' g) (n : ∀ x y, NX (f x y)) (n' : ∀ x y, NX (g x y)) (ha : EvE K C ta ma) (hb : EvE K C tb mb) (hc : EvE K C tc mc) : EvE K C (tChain r r' ta tb tc) (eChain f g ma mb mc) := fun N H σ env e s Q h => by
  refine ha N H σ env e s _ (PostR.imp (PostR.bind h) fun x N1 H1 g1 h1 v rv => ?_)
  refine hb N1 H1 σ env g1.nh (s.mono g1.nn) _ (PostR.imp (PostR.bind h1) fun y N2 H2 g2 h2 w rw' => ?_)
  obtain ⟨z, hz, k⟩ := (PostR.bind h2).val (n x y)
  refine hr N2 H2 g2.nh v w x y (rv.mono g2.nn) rw' _ ⟨z, hz, fun N3 H3 g3 u ru => ?_⟩
  obtain ⟨b, rfl, k3⟩ := (k N3 H3 g3).asBl
  cases ru
  refine ⟨b, rfl, ?_⟩
  cases b with
  | false => exact k3 N3 H3 (Gr.refl g3.nh) _ (.bl false)
  | true =>
    refine hc N3 H3 σ env g3.nh ((s.mono g1.nn).mono (fun a o q => g3.nn a o (g2.nn a o q))) _ (PostR.imp (PostR.bind k3) fun c N4 H4 g4 h4 w' rc => ?_)
    exact hr' N4 H4 g4.nh w w' y c ((rw'.mono g3.nn).mono g4.nn) rc Q (h4.val (n' y c))
end
theorem len_line {n : Nat} (h : n ≤ 16777216) : n ≤ sizeLine := by rw [sizeLine_eq]; exact h
section
variable {K : PySem.W.Frag} {C : Cn} {t : TA} {m : EL}
theorem ev_tup (ha : EvA K C t m) : EvE K C (tTup t) (eArgs vTup m) := fun N H σ env e s Q h => by
  refine ha N H σ env e s _ (PostR.imp (PostR.bind h) fun xs N1 H1 g1 h1 vs rvs => ?_)
  unfold vTup at h1
  split at h1
  · rename_i hl
    refine ⟨len_line (by rw [rvs.length]; exact hl), fun p hp => ?_⟩
    have g2 := Gr.new (o := .tup vs) g1.nh hp
    exact h1 _ _ g2 _ (.tup (SqP.of upd_same) (rvs.mono g2.nn))
  · exact h1.elim
theorem ef_lst (ha : EvA K C t m) : EvF K C (tLst t) (eArgs vLst m) := fun N H σ env e s Q h => by
  refine ha N H σ env e s _ (PostR.imp (PostR.bind h) fun xs N1 H1 g1 h1 vs rvs => ?_)
  unfold vLst at h1
  split at h1
  · rename_i hl
    obtain ⟨ys, e1, h2⟩ := h1 N1 H1 (Gr.refl g1.nh)
    cases e1
    exact ⟨len_line (by rw [rvs.length]; exact hl), fun p hp => h2 p vs hp rvs⟩
  · exact h1.elim
end
/-- a list that is made, as a value -/
theorem EvF.e {K : PySem.W.Frag} {C : Cn} {te : TE} {m : EX} (hl : ∀ env x, m env = .ok x → ∃ xs, x = .lst xs) (h : EvF K C te m) : EvE K C te m := fun N H σ env e s Q k => by
  refine h N H σ env e s Q ?_
  cases hm : m env with
  | bad => rw [hm] at k; exact k
  | exc x => rw [hm] at k; exact k
  | ok x =>
    rw [hm] at k
    obtain ⟨xs, rfl⟩ := hl env x hm
    refine fun N1 H1 g1 => ⟨xs, rfl, fun p vs hp rvs => ?_⟩
    have g2 := Gr.new (o := .lst vs) g1.nh hp
    exact k _ _ (g1.trans g2) _ (.lst (SqL.of upd_same) (rvs.mono g2.nn))
end Vm
namespace Vm
open PySem L2 PyProof.Rows
variable [TabsOf]
theorem line_eq : (sizeLine : Nat) = 16777216 := sizeLine_eq
theorem OpR.or {X : Cx} {f : Value → Value → Sem Value} {r r' : R2} (h : OpR X f r) (h' : OpR X f r') : OpR X f (fun x y H Q => r x y H Q ∨ r' x y H Q) := by
  intro pins s σ H x y v u Q I rx ry q
  rcases q with q | q
  · exact h pins s σ H x y v u Q I rx ry q
  · exact h' pins s σ H x y v u Q I rx ry q
def rCatS (K : PySem.W.Frag) : R2 := fun x y H Q => ∃ l b xs zs, x = .ref l ∧ y = .ref b ∧ SqL K H l xs ∧ SqL K H b zs ∧ xs.length + zs.length ≤ sizeLine ∧ ∀ p, H p = none → Q (.ref p) (upd H p (.lst (xs ++ zs)))
theorem op_catS {X : Cx} : OpR X (binaryOp .Add) (rCatS X.K) := by
  intro pins s σ H x y v u Q I rx ry h
  obtain ⟨l, b, xs, zs, rfl, rfl, hH, hB, hz, q⟩ := h
  cases rx
  cases ry
  obtain ⟨its, r, p1, z1⟩ := I.list hH
  obtain ⟨its2, r2, p2, z2⟩ := I.list hB
  obtain ⟨⟨cls, dd, data, sl⟩, ho, hc, n, hd⟩ := p1.isList
  obtain ⟨⟨cls2, dd2, data2, sl2⟩, ho2, hc2, n2, hd2⟩ := p2.isList
  simp only at hc hd hc2 hd2
  subst hc hd hc2 hd2
  have hl := r.length
  have hl2 := r2.length
  have ea : its.toArray ++ its2.toArray = (its ++ its2).toArray := by simp
  refine concat_meets ⟨_, ho, rfl⟩ ⟨_, ho2, rfl⟩ noFill_list_add seq_list_add PySem.F.slot_list_add PySem.F.entry_list_add (PySem.F.args_list_add_2 _ _) (list_addW l b its.toArray its2.toArray n n2 dd dd2 sl sl2 (by simp only [List.size_toArray]; omega)) ⟨ho, ho2, ?_⟩
  rw [ea]
  exact ⟨.ref _, _, I.lnew (t' := s.toks) (r.append r2) (by rw [List.length_append]; omega), rfl, q _ I.fresh⟩
def rAddV (K : PySem.W.Frag) : R2 := fun x y H Q => (rI0 fun i j => .int (i + j)) x y H Q ∨ (∃ i j, x = .str i ∧ y = .str j ∧ i.length + j.length ≤ sizeLine ∧ Q (.str (i ++ j)) H) ∨ rCatS K x y H Q ∨ rCatT K x y H Q
theorem op_addV {X : Cx} : OpR X (binaryOp .Add) (rAddV X.K) := OpR.or op_add (OpR.or op_add_str (OpR.or op_catS op_catT))
def rMulV : R2 := rI CMul fun i j => .int (i * j)
def rDivV : R2 := rI CDivW fun i j => .int (i / j)
def rModV : R2 := rI (fun _ j => 0 < j) fun i j => .int (i % j)
def rPowV : R2 := rI CPow fun i j => .int (i ^ j.toNat)
def rEqV (K : PySem.W.Frag) : R2 := fun x y H Q => rEq x y H Q ∨ rEqD K x y H Q
def rNeV (K : PySem.W.Frag) : R2 := fun x y H Q => rNe x y H Q ∨ rNeD K x y H Q
theorem op_eqV {X : Cx} (hu : X.A.units + 64 < cLine) : OpR X (compareOp .Eq) (rEqV X.K) := OpR.or op_eq (op_eqD hu)
theorem op_neV {X : Cx} (hu : X.A.units + 64 < cLine) : OpR X (compareOp .NotEq) (rNeV X.K) := OpR.or op_ne (op_neD hu)
def rInV (K : PySem.W.Frag) : R2 := fun x y H Q => rIn K false x y H Q ∨ (∃ (c : Nat) (z : Str), x = .str ⟨#[c]⟩ ∧ y = .str z ∧ Q (.bl (decide (c ∈ z.cps.toList))) H)
def rNotInV (K : PySem.W.Frag) : R2 := fun x y H Q => rIn K true x y H Q ∨ (∃ (c : Nat) (z : Str), x = .str ⟨#[c]⟩ ∧ y = .str z ∧ Q (.bl (!decide (c ∈ z.cps.toList))) H)
theorem op_inV {X : Cx} : OpR X (compareOp .In) (rInV X.K) := OpR.or op_in_seq op_in_sign
theorem op_notInV {X : Cx} : OpR X (compareOp .NotIn) (rNotInV X.K) := OpR.or op_notIn_seq op_notIn_sign
def rIsN : R2 := fun x y H Q => y = .non ∧ Q (.bl (decide (x = .non))) H
theorem nx_ok {α : Type} {a : α} : NX (Res.ok a) := fun _ h => nomatch h
theorem nx_bad {α : Type} : NX (Res.bad : Res α) := fun _ h => nomatch h
theorem nx_ofOpt {α : Type} {o : Option α} : NX (Res.ofOpt o) := by cases o <;> exact fun _ h => nomatch h
theorem nx_bind {α β : Type} {r : Res α} {f : α → Res β} (h : NX r) (k : ∀ a, NX (f a)) : NX (r.bind f) := by
  cases r with
  | ok a => exact k a
  | exc e => exact absurd rfl (h e)
  | bad => exact fun _ h => nomatch h
theorem nx_ite {α : Type} {c : Prop} [Decidable c] {a b : Res α} (h1 : NX a) (h2 : NX b) : NX (if c then a else b) := by split <;> assumption
theorem nx_eqR (x y : Val) : NX (eqR x y) := by unfold eqR; exact nx_ite nx_ok (nx_ite nx_ok nx_bad)
section
variable (x y : Val)
theorem nx_add : NX (vAdd x y) := by unfold vAdd; split <;> first | exact nx_ok | exact nx_ite nx_ok nx_bad | exact nx_bad
theorem nx_sub : NX (vSub x y) := by unfold vSub; split <;> first | exact nx_ok | exact nx_bad
theorem nx_mul : NX (vMul x y) := by unfold vMul; split <;> first | exact nx_ite nx_ok nx_bad | exact nx_bad
theorem nx_div : NX (vDiv x y) := by unfold vDiv; split <;> first | exact nx_ite nx_ok nx_bad | exact nx_bad
theorem nx_mod : NX (vMod x y) := by unfold vMod; split <;> first | exact nx_ite nx_ok nx_bad | exact nx_bad
theorem nx_pow : NX (vPow x y) := by unfold vPow; split <;> first | exact nx_ite nx_ok nx_bad | exact nx_bad
theorem nx_neg : NX (vNeg x) := by unfold vNeg; split <;> first | exact nx_ok | exact nx_bad
theorem nx_lt : NX (vLt x y) := by unfold vLt; split <;> first | exact nx_ok | exact nx_bad
theorem nx_le : NX (vLe x y) := by unfold vLe; split <;> first | exact nx_ok | exact nx_bad
theorem nx_gt : NX (vGt x y) := by unfold vGt; split <;> first | exact nx_ok | exact nx_bad
theorem nx_ge : NX (vGe x y) := by unfold vGe; split <;> first | exact nx_ok | exact nx_bad
theorem nx_eq : NX (vEq x y) := by unfold vEq; exact nx_bind (nx_eqR x y) fun _ => nx_ok
theorem nx_ne : NX (vNe x y) := by unfold vNe; exact nx_bind (nx_eqR x y) fun _ => nx_ok
theorem nx_in : NX (vInS x y) := by
  unfold vInS
  split
  · exact nx_ite nx_ok nx_bad
  · exact nx_ite nx_ok nx_bad
  · split <;> first | exact nx_ok | exact nx_bad
  · exact nx_bad
theorem nx_not {r : Res Val} (h : NX r) : NX (rNot r) := by
  cases r with
  | ok a => unfold rNot; split <;> first | exact nx_ok | exact nx_bad | (rename_i e; cases e)
  | exc e => exact absurd rfl (h e)
  | bad => exact nx_bad
theorem nx_is : NX (vIs x y) := by unfold vIs; split <;> first | exact nx_ok | exact nx_bad
theorem nx_ix : NX (vIxS x y) := by unfold vIxS; split <;> first | exact nx_ofOpt | exact nx_ite nx_ofOpt nx_bad | exact nx_bad
end
section
variable {K : PySem.W.Frag}
theorem ops_add : OpS K (rAddV K) vAdd := by
  intro N H e v w x y rx ry Q ⟨z, hz, k⟩
  cases rx with
  | int i =>
    cases ry with
    | int j => cases hz; exact .inl ⟨i, j, rfl, rfl, k N H (Gr.refl e) _ (.int _)⟩
    | _ => cases hz
  | str i =>
    cases ry with
    | str j =>
      simp only [vAdd] at hz
      split at hz
      · cases hz; rename_i hl; exact .inr (.inl ⟨i, j, rfl, rfl, by rw [line_eq]; exact hl, k N H (Gr.refl e) _ (.str _)⟩)
      · cases hz
    | _ => cases hz
  | lst h r =>
    cases ry with
    | lst h2 r2 =>
      simp only [vAdd] at hz
      split at hz
      · cases hz
        rename_i hl
        refine .inr (.inr (.inl ⟨_, _, _, _, rfl, rfl, sq_mono e.sub h, sq_mono e.sub h2, by rw [line_eq, r.length, r2.length]; exact hl, fun p hp => ?_⟩))
        exact k _ _ (Gr.new e hp) _ (.lst (SqL.of upd_same) ((r.append r2).mono (Gr.new e hp).nn))
      · cases hz
    | _ => cases hz
  | tup h r =>
    cases ry with
    | tup h2 r2 =>
      simp only [vAdd] at hz
      split at hz
      · cases hz
        rename_i hl
        obtain ⟨l1, n1⟩ := hl
        refine .inr (.inr (.inr ⟨_, _, _, _, rfl, rfl, st_mono e.sub h, st_mono e.sub h2, fun z => ?_, by rw [line_eq, r.length, r2.length]; exact l1, fun z => ?_, fun z p hp => ?_⟩))
        · have := r.length
          rw [z] at this
          rw [List.isEmpty_eq_false_iff] at n1
          exact n1 (List.length_eq_zero_iff.mp this.symm)
        · have hy := r2.length
          rw [z] at hy
          have hy2 := List.length_eq_zero_iff.mp hy.symm
          refine k N H (Gr.refl e) _ ?_
          rw [hy2, List.append_nil]
          exact .tup h r
        · exact k _ _ (Gr.new e hp) _ (.tup (SqP.of upd_same) ((r.append r2).mono (Gr.new e hp).nn))
      · cases hz
    | _ => cases hz
  | _ => cases hz
theorem ops_I0 {g : Int → Int → Val} {gv : Int → Int → V} {f : Val → Val → Res Val} (hg : ∀ N i j, RV K N (gv i j) (g i j)) (hf : ∀ x y z, f x y = .ok z → ∃ i j, x = .int i ∧ y = .int j ∧ z = g i j) : OpS K (rI0 gv) f := by
  intro N H e v w x y rx ry Q ⟨z, hz, k⟩
  obtain ⟨i, j, rfl, rfl, rfl⟩ := hf x y z hz
  cases rx
  cases ry
  exact ⟨i, j, rfl, rfl, k N H (Gr.refl e) _ (hg N i j)⟩
theorem ops_I {c : Int → Int → Prop} {g : Int → Int → Val} {gv : Int → Int → V} {f : Val → Val → Res Val} (hg : ∀ N i j, RV K N (gv i j) (g i j)) (hf : ∀ x y z, f x y = .ok z → ∃ i j, x = .int i ∧ y = .int j ∧ c i j ∧ z = g i j) : OpS K (rI c gv) f := by
  intro N H e v w x y rx ry Q ⟨z, hz, k⟩
  obtain ⟨i, j, rfl, rfl, hc, rfl⟩ := hf x y z hz
  cases rx
  cases ry
  exact ⟨i, j, rfl, rfl, hc, k N H (Gr.refl e) _ (hg N i j)⟩
theorem ops_sub : OpS K (rI0 fun i j => .int (i - j)) vSub := ops_I0 (g := fun i j => .int (i - j)) (fun _ _ _ => .int _) fun x y z h => by
  cases x <;> cases y <;> first | (cases h; exact ⟨_, _, rfl, rfl, rfl⟩) | cases h
theorem ops_lt : OpS K (rI0 fun i j => .bl (decide (i < j))) vLt := ops_I0 (g := fun i j => .bl (decide (i < j))) (fun _ _ _ => .bl _) fun x y z h => by
  cases x <;> cases y <;> first | (cases h; exact ⟨_, _, rfl, rfl, rfl⟩) | cases h
theorem ops_le : OpS K (rI0 fun i j => .bl (decide (i ≤ j))) vLe := ops_I0 (g := fun i j => .bl (decide (i ≤ j))) (fun _ _ _ => .bl _) fun x y z h => by
  cases x <;> cases y <;> first | (cases h; exact ⟨_, _, rfl, rfl, rfl⟩) | cases h
theorem ops_gt : OpS K (rI0 fun i j => .bl (decide (j < i))) vGt := ops_I0 (g := fun i j => .bl (decide (j < i))) (fun _ _ _ => .bl _) fun x y z h => by
  cases x <;> cases y <;> first | (cases h; exact ⟨_, _, rfl, rfl, rfl⟩) | cases h
theorem ops_ge : OpS K (rI0 fun i j => .bl (decide (j ≤ i))) vGe := ops_I0 (g := fun i j => .bl (decide (j ≤ i))) (fun _ _ _ => .bl _) fun x y z h => by
  cases x <;> cases y <;> first | (cases h; exact ⟨_, _, rfl, rfl, rfl⟩) | cases h
theorem ite_ok {α : Type} {c : Prop} [Decidable c] {a z : α} (h : (if c then Res.ok a else .bad) = .ok z) : c ∧ z = a := by
  split at h
  · rename_i hc; cases h; exact ⟨hc, rfl⟩
  · cases h
theorem ops_mul : OpS K rMulV vMul := ops_I (g := fun i j => .int (i * j)) (fun _ _ _ => .int _) fun x y z h => by
  unfold vMul at h
  split at h
  · rename_i i j
    obtain ⟨h1, h2⟩ := ite_ok h
    refine ⟨i, j, rfl, rfl, ?_, h2⟩
    rcases big_iff.mp h1 with h1 | h1
    · exact .inl ⟨by have := h1.1; omega, by have := h1.2; omega⟩
    · exact .inr ⟨by have := h1.1; omega, by have := h1.2; omega⟩
  · cases h
theorem ops_div : OpS K rDivV vDiv := ops_I (g := fun i j => .int (i / j)) (fun _ _ _ => .int _) fun x y z h => by
  unfold vDiv at h
  split at h
  · rename_i i j
    obtain ⟨h1, h2⟩ := ite_ok h
    have h1 := big_iff.mp h1
    exact ⟨i, j, rfl, rfl, wide_div (i := i) (b := 100) h1.1 (by have := h1.1; have := h1.2; omega) (by decide) (by decide), h2⟩
  · cases h
theorem ops_mod : OpS K rModV vMod := ops_I (g := fun i j => .int (i % j)) (fun _ _ _ => .int _) fun x y z h => by
  unfold vMod at h
  split at h
  · rename_i i j
    obtain ⟨h1, h2⟩ := ite_ok h
    exact ⟨i, j, rfl, rfl, h1, h2⟩
  · cases h
theorem ops_pow : OpS K rPowV vPow := ops_I (g := fun i j => .int (i ^ j.toNat)) (fun _ _ _ => .int _) fun x y z h => by
  unfold vPow at h
  split at h
  · rename_i i j
    obtain ⟨h1, h2⟩ := ite_ok h
    have h1 := big_iff.mp h1
    exact ⟨i, j, rfl, rfl, ⟨h1.1, h1.2.1, by have := h1.2.2; omega⟩, h2⟩
  · cases h
theorem uns_neg : UnS K (rU fun i => .int (-i)) vNeg := by
  intro N H e v x rx Q ⟨z, hz, k⟩
  cases rx with
  | int i => cases hz; exact ⟨i, rfl, k N H (Gr.refl e) _ (.int _)⟩
  | _ => cases hz
theorem eqR_ok {N H : Hp} (e : Inn N H) {v w : V} {x y : Val} {b : Bool} (rx : RV K N v x) (ry : RV K N w y) (h : eqR x y = .ok b) : (L2.scal v w = true ∧ decide (v = w) = b) ∨ ∃ d d', Dp K H v d ∧ Dp K H w d' ∧ SeqAt.shaped d = true ∧ SeqAt.shaped d' = true ∧ PyData.eqv d d' = b := by
  unfold eqR at h
  split at h
  · rename_i hs
    cases h
    exact .inl (rx.scal ry hs)
  · obtain ⟨h1, h2⟩ := ite_ok h
    simp only [Bool.and_eq_true, decide_eq_true_eq] at h1
    obtain ⟨⟨a1, a2⟩, a3, a4⟩ := h1
    refine .inr ⟨toD x, toD y, RV.dp x (rx.mono e) a1, RV.dp y (ry.mono e) a3, shaped_toD a1 a2, shaped_toD a3 a4, ?_⟩
    rw [h2]
    exact eqv_toD x y a1 a3
theorem ops_eq : OpS K (rEqV K) vEq := by
  intro N H e v w x y rx ry Q ⟨z, hz, k⟩
  unfold vEq at hz
  cases hr : eqR x y with
  | bad => rw [hr] at hz; cases hz
  | exc _ => rw [hr] at hz; cases hz
  | ok b =>
    rw [hr] at hz
    cases hz
    rcases eqR_ok e rx ry hr with ⟨h1, h2⟩ | ⟨d, d', h1, h2, h3, h4, h5⟩
    · exact .inl ⟨h1, by rw [h2]; exact k N H (Gr.refl e) _ (.bl _)⟩
    · exact .inr ⟨d, d', h1, h2, h3, h4, by rw [h5]; exact k N H (Gr.refl e) _ (.bl _)⟩
theorem ops_ne : OpS K (rNeV K) vNe := by
  intro N H e v w x y rx ry Q ⟨z, hz, k⟩
  unfold vNe at hz
  cases hr : eqR x y with
  | bad => rw [hr] at hz; cases hz
  | exc _ => rw [hr] at hz; cases hz
  | ok b =>
    rw [hr] at hz
    cases hz
    rcases eqR_ok e rx ry hr with ⟨h1, h2⟩ | ⟨d, d', h1, h2, h3, h4, h5⟩
    · exact .inl ⟨h1, by rw [h2]; exact k N H (Gr.refl e) _ (.bl _)⟩
    · exact .inr ⟨d, d', h1, h2, h3, h4, by rw [h5]; exact k N H (Gr.refl e) _ (.bl _)⟩
theorem in_seq {N H : Hp} (e : Inn N H) {v w : V} {x y : Val} {xs : List Val} (rx : RV K N v x) (ry : RV K N w y) (hy : y = .lst xs ∨ y = .tup xs) (h : (x.isFlat && xs.all Val.isFlat) = true) :
    ∃ p vs, w = .ref p ∧ (SqL K H p vs ∨ SqT K H p vs) ∧ flatV v = true ∧ vs.all flatV = true ∧ inV v vs = inFlat x xs := by
  rw [Bool.and_eq_true] at h
  obtain ⟨h1, h2⟩ := rx.flat h.1
  rcases hy with rfl | rfl
  · cases ry with
    | lst hs r =>
      obtain ⟨h3, h4⟩ := r.flats h.2
      exact ⟨_, _, rfl, .inl (sq_mono e.sub hs), h2, h4, by rw [h1, h3, inV_of h.1 h.2]⟩
  · cases ry with
    | tup hs r =>
      obtain ⟨h3, h4⟩ := r.flats h.2
      exact ⟨_, _, rfl, .inr (st_mono e.sub hs), h2, h4, by rw [h1, h3, inV_of h.1 h.2]⟩
theorem in_cases {x y z : Val} (h : vInS x y = .ok z) : (∃ xs, (y = .lst xs ∨ y = .tup xs) ∧ (x.isFlat && xs.all Val.isFlat) = true ∧ z = .bl (inFlat x xs)) ∨ ∃ c s, x = .str ⟨#[c]⟩ ∧ y = .str s ∧ z = .bl (decide (c ∈ s.cps.toList)) := by
  unfold vInS at h
  split at h
  · obtain ⟨h1, h2⟩ := ite_ok h
    exact .inl ⟨_, .inl rfl, h1, h2⟩
  · obtain ⟨h1, h2⟩ := ite_ok h
    exact .inl ⟨_, .inr rfl, h1, h2⟩
  · rename_i a b
    split at h
    · rename_i c hc
      cases h
      refine .inr ⟨c, b, ?_, rfl, rfl⟩
      obtain ⟨⟨l⟩⟩ := a
      simp only at hc
      rw [hc]
    · cases h
  · cases h
theorem ops_in : OpS K (rInV K) vInS := by
  intro N H e v w x y rx ry Q ⟨z, hz, k⟩
  rcases in_cases hz with ⟨xs, hy, hf, rfl⟩ | ⟨c, s, rfl, rfl, rfl⟩
  · obtain ⟨p, vs, h1, h2, h3, h4, h5⟩ := in_seq e rx ry hy hf
    refine .inl ⟨p, vs, h1, h2, h3, h4, ?_⟩
    rw [h5]
    exact k N H (Gr.refl e) _ (.bl _)
  · cases rx
    cases ry
    exact .inr ⟨c, s, rfl, rfl, k N H (Gr.refl e) _ (.bl _)⟩
theorem ops_notIn : OpS K (rNotInV K) vNotInS := by
  intro N H e v w x y rx ry Q ⟨z, hz, k⟩
  unfold vNotInS at hz
  cases hr : vInS x y with
  | bad => rw [hr] at hz; cases hz
  | exc _ => rw [hr] at hz; cases hz
  | ok b =>
    rw [hr] at hz
    rcases in_cases hr with ⟨xs, hy, hf, rfl⟩ | ⟨c, s, rfl, rfl, rfl⟩
    · cases hz
      obtain ⟨p, vs, h1, h2, h3, h4, h5⟩ := in_seq e rx ry hy hf
      refine .inl ⟨p, vs, h1, h2, h3, h4, ?_⟩
      rw [h5]
      exact k N H (Gr.refl e) _ (.bl _)
    · cases hz
      cases rx
      cases ry
      exact .inr ⟨c, s, rfl, rfl, k N H (Gr.refl e) _ (.bl _)⟩
theorem RV.nonV {N : Hp} {v : V} {x : Val} (r : RV K N v x) : decide (v = .non) = (match x with | .non => true | _ => false) := by cases r <;> first | rfl | simp
theorem ops_is : OpS K rIsN vIs := by
  intro N H e v w x y rx ry Q ⟨z, hz, k⟩
  cases ry with
  | non =>
    refine ⟨rfl, ?_⟩
    rw [rx.nonV]
    cases rx <;> (cases hz; exact k N H (Gr.refl e) _ (.bl _))
  | _ => cases rx <;> cases hz
end
end Vm
namespace Vm
open PySem L2
variable [TabsOf]
section
variable {K : PySem.W.Frag} {C : Cn}
theorem ops_ix : OpS K (rIx K) vIxS := by
  intro N H e v w x y rx ry Q ⟨z, hz, k⟩
  cases rx with
  | lst h r =>
    cases ry with
    | int i =>
      simp only [vIxS] at hz
      cases ha : Vm.atI _ i with
      | none => rw [ha] at hz; cases hz
      | some y =>
        rw [ha] at hz
        cases hz
        unfold Vm.atI at ha
        cases hj : ixNat _ i with
        | none => rw [hj] at ha; cases ha
        | some j =>
          rw [hj] at ha
          obtain ⟨u, h1, h2⟩ := r.get (show _[j]? = some z from ha)
          refine .inl ⟨_, _, i, u, rfl, rfl, sq_mono e.sub h, ?_, k N H (Gr.refl e) u h2⟩
          unfold L2.atI
          rw [r.length, show L2.ixN _ i = some j from hj]
          exact h1
    | _ => cases hz
  | tup h r =>
    cases ry with
    | int i =>
      simp only [vIxS] at hz
      cases ha : Vm.atI _ i with
      | none => rw [ha] at hz; cases hz
      | some y =>
        rw [ha] at hz
        cases hz
        unfold Vm.atI at ha
        cases hj : ixNat _ i with
        | none => rw [hj] at ha; cases ha
        | some j =>
          rw [hj] at ha
          obtain ⟨u, h1, h2⟩ := r.get (show _[j]? = some z from ha)
          refine .inr (.inl ⟨_, _, i, u, rfl, rfl, st_mono e.sub h, ?_, k N H (Gr.refl e) u h2⟩)
          unfold L2.atI
          rw [r.length, show L2.ixN _ i = some j from hj]
          exact h1
    | _ => cases hz
  | str s =>
    cases ry with
    | int i =>
      simp only [vIxS] at hz
      split at hz
      · rename_i hl
        cases ha : Vm.atI s.cps.toList i with
        | none => rw [ha] at hz; cases hz
        | some c =>
          rw [ha] at hz
          cases hz
          exact .inr (.inr ⟨s, i, c, rfl, rfl, len_line hl, ha, k N H (Gr.refl e) _ (.str _)⟩)
      · cases hz
    | _ => cases hz
  | _ => cases ry <;> cases hz
def rSlV (K : PySem.W.Frag) : V → Option Int → Option Int → Hp → VK → Prop := fun x lo hi H Q => rSlL K x lo hi H Q ∨ (rSlT K x lo hi H Q ∨ rSlS x lo hi H Q)
theorem sl_V {X : Cx} : SlR X (rSlV X.K) := sl_list.or (sl_tup.or sl_str)
def SlS (K : PySem.W.Frag) (r : V → Option Int → Option Int → Hp → VK → Prop) : Prop := ∀ N H, Inn N H → ∀ v x lo hi, RV K N v x → ∀ Q : VK, (∃ z, vCut x lo hi = .ok z ∧ ∀ N' H', Gr N H N' H' → ∀ u, RV K N' u z → Q u H') → r v lo hi H Q
theorem RVs.cut {N : Hp} {vs : List V} {xs : List Val} (r : RVs K N vs xs) (lo hi : Option Int) : RVs K N (cutV vs lo hi) (Vm.cut xs lo hi) := by
  unfold cutV Vm.cut
  rw [r.length]
  exact (r.drop _).take _
theorem sls : SlS K (rSlV K) := by
  intro N H e v x lo hi rx Q ⟨z, hz, k⟩
  cases rx with
  | lst h r =>
    cases hz
    refine .inl ⟨_, _, rfl, sq_mono e.sub h, fun p hp => ?_⟩
    exact k _ _ (Gr.new e hp) _ (.lst (SqL.of upd_same) ((r.cut lo hi).mono (Gr.new e hp).nn))
  | tup h r =>
    simp only [vCut] at hz
    split at hz
    · cases hz
    · rename_i hw
      cases hz
      refine .inr (.inl ⟨_, _, rfl, st_mono e.sub h, by rw [r.length]; exact hw, fun p hp => ?_⟩)
      exact k _ _ (Gr.new e hp) _ (.tup (SqP.of upd_same) ((r.cut lo hi).mono (Gr.new e hp).nn))
  | str s =>
    simp only [vCut] at hz
    split at hz
    · rename_i hl
      cases hz
      exact .inr (.inr ⟨s, rfl, len_line hl, k N H (Gr.refl e) _ (.str _)⟩)
    · cases hz
  | _ => cases hz
theorem nx_cut (x : Val) (l h : Option Int) : NX (vCut x l h) := by
  unfold vCut
  split
  · exact nx_ok
  · exact nx_ite nx_ok nx_bad
  · exact nx_ite nx_bad nx_ok
  · exact nx_bad
/-- a slice's part -/
def EvO (K : PySem.W.Frag) (C : Cn) (to : TO) (m : Option EX) : Prop := ∀ N H σ env, Inn N H → SV K N σ env → ∀ Q : Option Int → Hp → Prop, PostR C σ N H (partOf m env) (fun x _ H' => Q x H') → to σ H Q
theorem eo_none : EvO K C tNoPart none := fun N H σ env e s Q h => PostR.now (P := fun x _ H' => Q x H') e h
theorem eo_some {ta : TE} {ma : EX} (ha : EvE K C ta ma) : EvO K C (tPart ta) (some ma) := fun N H σ env e s Q h => by
  refine ha N H σ env e s _ (PostR.imp (PostR.bind h) fun x N1 H1 g1 h1 v rv => ?_)
  cases rv with
  | int i => exact ⟨i, rfl, PostR.now (P := fun x _ H' => Q x H') g1.nh h1⟩
  | _ => exact h1.elim
theorem ev_cut {ta : TE} {ma : EX} {tl th : TO} {lo hi : Option EX} (ha : EvE K C ta ma) (hl : EvO K C tl lo) (hh : EvO K C th hi) : EvE K C (tSl (rSlV K) ta tl th) (eCut ma lo hi) := fun N H σ env e s Q h => by
  refine ha N H σ env e s _ (PostR.imp (PostR.bind h) fun x N1 H1 g1 h1 v rv => ?_)
  have s1 := s.mono g1.nn
  refine hl N1 H1 σ env g1.nh s1 _ (PostR.imp (PostR.bind h1) fun l N2 H2 g2 h2 => ?_)
  refine hh N2 H2 σ env g2.nh (s1.mono g2.nn) _ (PostR.imp (PostR.bind h2) fun u N3 H3 g3 h3 => ?_)
  exact sls N3 H3 g3.nh v x l u ((rv.mono g2.nn).mono g3.nn) Q (h3.val (nx_cut x l u))
end
def setsE (env : Env) (l : List (Nat × V × Val)) : Env := l.foldl (fun e t => e.set t.1 (.sh t.2.2)) env
def setsS (σ : L2.St) (l : List (Nat × V × Val)) : L2.St := l.foldl (fun s t => s.set t.1 (some t.2.1)) σ
def EvP (K : PySem.W.Frag) (g : TG) (put : Put) (is : List Nat) : Prop := ∀ N H σ env v x env', Inn N H → RV K N v x → put x env = .ok env' → ∀ Q : L2.St → Hp → Prop, (∀ l : List (Nat × V × Val), (∀ t ∈ l, t.1 ∈ is ∧ RV K N t.2.1 t.2.2) → env' = setsE env l → Q (setsS σ l) H) → g v σ H Q
def EvPs (K : PySem.W.Frag) (g : TGs) (is : List Nat) : Prop := ∀ N H σ env vs xs env', Inn N H → RVs K N vs xs → putAll is xs env = .ok env' → ∀ Q : L2.St → Hp → Prop, (∀ l : List (Nat × V × Val), (∀ t ∈ l, t.1 ∈ is ∧ RV K N t.2.1 t.2.2) → env' = setsE env l → Q (setsS σ l) H) → g vs σ H Q
section
variable {K : PySem.W.Frag}
theorem pName_ok {i : Nat} {x : Val} {env env' : Env} (h : pName i x env = .ok env') : i < env.length ∧ env' = env.set i (.sh x) := ite_ok h
theorem ep_name {i : Nat} : EvP K (gName i) (pName i) [i] := fun N H σ env v x env' e r hp Q k => by
  obtain ⟨_, rfl⟩ := pName_ok hp
  exact k [(i, v, x)] (fun t ht => by rw [List.mem_singleton] at ht; subst ht; exact ⟨List.mem_singleton.mpr rfl, r⟩) rfl
theorem eps_nil : EvPs K gNil [] := fun N H σ env vs xs env' e r hp Q k => by
  cases r with
  | nil =>
    cases hp
    exact ⟨rfl, k [] (fun t ht => by cases ht) rfl⟩
  | cons _ _ => cases hp
theorem eps_cons {i : Nat} {is : List Nat} {g : TGs} (h : EvPs K g is) : EvPs K (gCons (gName i) g) (i :: is) := fun N H σ env vs xs env' e r hp Q k => by
  cases r with
  | nil => cases hp
  | @cons v vs x xs r1 r2 =>
    have hp' : ((pName i x env).bind fun e => putAll is xs e) = .ok env' := hp
    cases hn : pName i x env with
    | bad => rw [hn] at hp'; cases hp'
    | exc q => rw [hn] at hp'; cases hp'
    | ok e1 =>
      rw [hn] at hp'
      obtain ⟨_, rfl⟩ := pName_ok hn
      refine ⟨v, vs, rfl, ?_⟩
      refine h N H (σ.set i (some v)) _ vs xs env' e r2 hp' Q fun l hl he => ?_
      exact k ((i, v, x) :: l) (fun t ht => by
        rcases List.mem_cons.mp ht with rfl | ht
        · exact ⟨List.mem_cons_self, r1⟩
        · exact ⟨List.mem_cons_of_mem _ (hl t ht).1, (hl t ht).2⟩) he
theorem putAll_len : ∀ {is : List Nat} {xs : List Val} {env env' : Env}, putAll is xs env = .ok env' → xs.length = is.length
  | [], [], _, _, _ => rfl
  | [], _ :: _, _, _, h => by cases h
  | _ :: _, [], _, _, h => by cases h
  | i :: is, x :: xs, env, env', h => by
    have h' : ((pName i x env).bind fun e => putAll is xs e) = .ok env' := h
    cases hn : pName i x env with
    | bad => rw [hn] at h'; cases h'
    | exc q => rw [hn] at h'; cases h'
    | ok e1 =>
      rw [hn] at h'
      rw [List.length_cons, List.length_cons, putAll_len h']
theorem ep_tup {is : List Nat} {g : TGs} (h : EvPs K g is) : EvP K (gTup K is.length g) (pTup is) is := fun N H σ env v x env' e r hp Q k => by
  cases r with
  | tup hs rs =>
    have hp' : putAll is _ env = .ok env' := hp
    exact ⟨_, _, rfl, st_mono e.sub hs, by rw [rs.length, putAll_len hp'], h N H σ env _ _ env' e rs hp' Q k⟩
  | _ => cases hp
theorem SV.sets {N : Hp} : ∀ {l : List (Nat × V × Val)} {σ : L2.St} {env : Env}, SV K N σ env → (∀ t ∈ l, RV K N t.2.1 t.2.2) → SV K N (setsS σ l) (setsE env l)
  | [], _, _, s, _ => s
  | t :: l, σ, env, s, h => SV.sets (l := l) (s.set_sh (h t List.mem_cons_self)) fun t' ht => h t' (List.mem_cons_of_mem _ ht)
theorem wipe_set {σ : L2.St} {i : Nat} {s : Option V} : ∀ {vs : List Nat}, i ∈ vs → L2.wipe (σ.set i s) vs = L2.wipe σ vs
  | [], h => by cases h
  | v :: vs, h => by
    show (L2.wipe (σ.set i s) vs).set v none = (L2.wipe σ vs).set v none
    by_cases hv : i ∈ vs
    · rw [wipe_set hv]
    · have e : i = v := by
        rcases List.mem_cons.mp h with h | h
        · exact h
        · exact absurd h hv
      subst e
      have : ∀ (ws : List Nat), i ∉ ws → (L2.wipe (σ.set i s) ws) = (L2.wipe σ ws).set i s := by
        intro ws
        induction ws with
        | nil => intro _; rfl
        | cons w ws ih =>
          intro hw
          rw [List.mem_cons, not_or] at hw
          show (L2.wipe (σ.set i s) ws).set w none = ((L2.wipe σ ws).set w none).set i s
          rw [ih hw.2, List.set_comm]
          exact hw.1
      rw [this vs hv, List.set_set]
theorem wipe_wipe {σ : L2.St} : ∀ {vs ws : List Nat}, (∀ v ∈ ws, v ∈ vs) → L2.wipe (L2.wipe σ ws) vs = L2.wipe σ vs
  | vs, [], _ => rfl
  | vs, w :: ws, h => by
    show L2.wipe ((L2.wipe σ ws).set w none) vs = L2.wipe σ vs
    rw [wipe_set (h w List.mem_cons_self), wipe_wipe fun v hv => h v (List.mem_cons_of_mem _ hv)]
theorem wipe_sets {vs : List Nat} : ∀ {l : List (Nat × V × Val)} {σ : L2.St}, (∀ t ∈ l, t.1 ∈ vs) → L2.wipe (setsS σ l) vs = L2.wipe σ vs
  | [], _, _ => rfl
  | t :: l, σ, h => by
    show L2.wipe (setsS (σ.set t.1 (some t.2.1)) l) vs = _
    rw [wipe_sets (l := l) fun t' ht => h t' (List.mem_cons_of_mem _ ht), wipe_set (h t List.mem_cons_self)]
end
def WalkV (K : PySem.W.Frag) (N : Hp) (J : It) (xs : List Val) : Prop := ∃ G Y, Walk J xs.length G Y ∧ (∀ H, Inn N H → G H) ∧ ∀ i H v H', i < xs.length → Inn N H → Y i H v H' → ∃ N' x, Gr N H N' H' ∧ xs[i]? = some x ∧ RV K N' v x
def EvI (K : PySem.W.Frag) (C : Cn) (wi : TI) (m : EI) : Prop := ∀ N H σ env, Inn N H → SV K N σ env → ∀ R : It → Hp → Prop, PostR C σ N H (m env) (fun xs N' H' => ∀ J, WalkV K N' J xs → R J H') → wi σ H R
structure SI (X : Cx) (C : Cn) (tg e : Expr) (wi : TI) (m : EI) : Prop where
  pi : PI X tg e wi
  ev : EvI X.K C wi m
section
variable {K : PySem.W.Frag} {C : Cn}
theorem walkV_list {N : Hp} {a : Addr} {vs : List V} {xs : List Val} (h : SqL K N a vs) (r : RVs K N vs xs) : WalkV K N (Itl K a) xs := by
  refine ⟨_, _, by rw [← r.length]; exact walk_list, fun H e => sq_mono e.sub h, fun i H v H' hi e y => ?_⟩
  obtain ⟨rfl, hv⟩ := y
  obtain ⟨x, h1, h2⟩ := r.getV hv
  exact ⟨N, x, Gr.refl e, h1, h2⟩
theorem walkV_tup {N : Hp} {a : Addr} {vs : List V} {xs : List Val} (h : SqP K N a vs) (r : RVs K N vs xs) : WalkV K N (Itt K a) xs := by
  refine ⟨_, _, by rw [← r.length]; exact walk_tup, fun H e => st_mono e.sub h, fun i H v H' hi e y => ?_⟩
  obtain ⟨rfl, hv⟩ := y
  obtain ⟨x, h1, h2⟩ := r.getV hv
  exact ⟨N, x, Gr.refl e, h1, h2⟩
theorem walkV_range {N : Hp} {lo : Int} {n : Nat} : WalkV K N (Itr lo n) (rangeL lo n) := by
  have hl : (rangeL lo n).length = n := by unfold rangeL; rw [List.length_map, List.length_range]
  refine ⟨_, _, by rw [hl]; exact walk_range, fun _ _ => trivial, fun i H v H' hi e y => ?_⟩
  obtain ⟨rfl, rfl⟩ := y
  rw [hl] at hi
  refine ⟨N, .int (lo + (i : Int)), Gr.refl e, ?_, .int _⟩
  unfold rangeL
  rw [List.getElem?_map, List.getElem?_range hi]
  rfl
theorem walkV_str {N : Hp} {z : Str} : WalkV K N (Its z) (z.cps.toList.map fun c => .str ⟨#[c]⟩) := by
  have hl : (z.cps.toList.map fun c => Val.str ⟨#[c]⟩).length = z.cps.size := by rw [List.length_map, Array.length_toList]
  refine ⟨_, _, by rw [hl]; exact walk_str, fun _ _ => trivial, fun i H v H' hi e y => ?_⟩
  obtain ⟨rfl, c, hc, rfl⟩ := y
  refine ⟨N, .str ⟨#[c]⟩, Gr.refl e, ?_, .str _⟩
  rw [List.getElem?_map, Array.getElem?_toList, hc]
  rfl
/-- a list, a tuple or a text, walked -/
def iSeqT (K : PySem.W.Frag) (tl : TE) : TI := fun σ H R => tl σ H fun x H1 => (∃ a, x = .ref a ∧ (∃ xs, SqL K H1 a xs) ∧ R (Itl K a) H1) ∨ (∃ a, x = .ref a ∧ (∃ xs, SqT K H1 a xs) ∧ R (Itt K a) H1) ∨ ∃ z, x = .str z ∧ R (Its z) H1
theorem PIE.of_list {X : Cx} {tg l : Expr} {pins : List (Addr × Obj)} {σ : L2.St} {H1 : Hp} {s1 : Shared} {R : It → Hp → Prop} {a : Addr} {xs : List V} (I1 : Inv X pins σ H1 s1) (hq : SqL X.K H1 a xs) (q : R (Itl X.K a) H1) :
    wpAny (model X.prog X.w) X.A (pyIter (.ref a)) (PIE X pins σ tg R) X.xe s1 := by
  obtain ⟨its, rv, p, hz⟩ := I1.list hq
  refine wpAny_pyIter_list p.isList ?_
  refine ⟨s1.heap.objs.size, [s1.heap.objs.size], _, _, H1, rfl, I1.kept (t' := s1.toks) fun b o e => Heap.get?_push_of_some _ e, turn_list a _, ⟨_, Heap.get?_push_size _ rfl, rfl, rfl⟩, fun b hb => ?_, q⟩
  have e : b = s1.heap.objs.size := by simpa using hb
  subst e
  exact I1.fpOk (Nat.le_refl _) (I1.hok.fresh (Nat.le_refl _))
theorem PIE.of_tup {X : Cx} {tg l : Expr} {pins : List (Addr × Obj)} {σ : L2.St} {H1 : Hp} {s1 : Shared} {R : It → Hp → Prop} {a : Addr} {xs : List V} (I1 : Inv X pins σ H1 s1) (hq : SqT X.K H1 a xs) (q : R (Itt X.K a) H1) :
    wpAny (model X.prog X.w) X.A (pyIter (.ref a)) (PIE X pins σ tg R) X.xe s1 := by
  obtain ⟨its, rv, p, hz⟩ := I1.tuple hq
  refine wpAny_pyIter_tuple (show s1.heap.IsTuple a its.toArray from p) ?_
  refine ⟨s1.heap.objs.size, [s1.heap.objs.size], _, _, H1, rfl, I1.kept (t' := s1.toks) fun b o e => Heap.get?_push_of_some _ e, turn_tuple a _, ⟨_, Heap.get?_push_size _ rfl, rfl, rfl⟩, fun b hb => ?_, q⟩
  have e : b = s1.heap.objs.size := by simpa using hb
  subst e
  exact I1.fpOk (Nat.le_refl _) (I1.hok.fresh (Nat.le_refl _))
/-- two ways of what a value gives, one walk -/
theorem pi_seqT {X : Cx} {tg l : Expr} {tl : TE} (hl : PE X l tl) : PI X tg l (iSeqT X.K tl) := by
  refine ⟨fun pins s σ H R I h => ?_⟩
  refine thn (hl.run pins s σ H _ I h) fun v s1 ⟨x, H1, I1, r1, q1⟩ => ?_
  rcases q1 with ⟨a, e, ⟨xs, hq⟩, q⟩ | ⟨a, e, ⟨xs, hq⟩, q⟩ | ⟨z, e, q⟩
  · subst e
    cases r1
    exact PIE.of_list (l := l) I1 hq q
  · subst e
    cases r1
    exact PIE.of_tup (l := l) I1 hq q
  · subst e
    obtain ⟨t, rfl⟩ := r1
    cases ha : z.cps.all (· < 128)
    · exact wpAny_pyIter_wide ha (pi_one (tk := s1.toks) I1 _ (turn_str _ z t "str_iterator" (.inr rfl)) ⟨_, Heap.get?_push_size _ rfl, rfl, rfl⟩ q)
    · exact wpAny_pyIter_ascii ha (pi_one (tk := s1.toks) I1 _ (turn_str _ z t "str_ascii_iterator" (.inl rfl)) ⟨_, Heap.get?_push_size _ rfl, rfl, rfl⟩ q)
theorem ei_seq {ta : TE} {ma : EX} (ha : EvE K C ta ma) : EvI K C (iSeqT K ta) (iSeq ma) := fun N H σ env e s R h => by
  refine ha N H σ env e s _ (PostR.imp (PostR.bind h) fun x N1 H1 g1 h1 v rv => ?_)
  cases rv with
  | lst hs r => exact .inl ⟨_, rfl, ⟨_, sq_mono g1.nh hs⟩, h1 N1 H1 (Gr.refl g1.nh) _ (walkV_list hs r)⟩
  | tup hs r => exact .inr (.inl ⟨_, rfl, ⟨_, st_mono g1.nh hs⟩, h1 N1 H1 (Gr.refl g1.nh) _ (walkV_tup hs r)⟩)
  | str z => exact .inr (.inr ⟨z, rfl, h1 N1 H1 (Gr.refl g1.nh) _ walkV_str⟩)
  | _ => exact h1.elim
theorem smallI_ok {i : Int} (h : smallI i = true) : -(2 ^ 62) ≤ i ∧ i < 2 ^ 62 := by
  have h := big_iff.mp h
  exact ⟨by have := h.1; omega, by have := h.2; omega⟩
theorem PostR.ite {α : Type} {σ : L2.St} {N H : Hp} {c : Prop} [Decidable c] {a : α} {P : α → Hp → Hp → Prop} (h : PostR C σ N H (if c then .ok a else .bad) P) : c ∧ PostR C σ N H (.ok a) P := by
  split at h
  · rename_i hc; exact ⟨hc, h⟩
  · exact h.elim
theorem ei_range1 {ta : TE} {ma : EX} (ha : EvE K C ta ma) : EvI K C (iRng1 (tCons ta tNil)) (iRange1 ma) := fun N H σ env e s R h => by
  refine ha N H σ env e s _ (PostR.imp (PostR.bind h) fun x N1 H1 g1 h1 v rv => ?_)
  cases rv with
  | int j =>
    obtain ⟨hs, h2⟩ := PostR.ite h1
    obtain ⟨s1, s2⟩ := smallI_ok hs
    exact ⟨j, rfl, s1, s2, h2 N1 H1 (Gr.refl g1.nh) _ walkV_range⟩
  | _ => exact h1.elim
theorem ei_range2 {ta tb : TE} {ma mb : EX} (ha : EvE K C ta ma) (hb : EvE K C tb mb) : EvI K C (iRng2 (tCons ta (tCons tb tNil))) (iRange2 ma mb) := fun N H σ env e s R h => by
  refine ha N H σ env e s _ (PostR.imp (PostR.bind h) fun x N1 H1 g1 h1 v rv => ?_)
  refine hb N1 H1 σ env g1.nh (s.mono g1.nn) _ (PostR.imp (PostR.bind h1) fun y N2 H2 g2 h2 w rw' => ?_)
  cases rv with
  | int i =>
    cases rw' with
    | int j =>
      obtain ⟨hs, h3⟩ := PostR.ite h2
      rw [Bool.and_eq_true] at hs
      obtain ⟨s1, s2⟩ := smallI_ok hs.1
      obtain ⟨s3, s4⟩ := smallI_ok hs.2
      exact ⟨i, j, rfl, ⟨s1, s2, s3, s4⟩, h3 N2 H2 (Gr.refl g2.nh) _ walkV_range⟩
    | _ => exact h2.elim
  | _ => exact h2.elim
theorem enumL_get : ∀ (xs : List Val) (n i : Nat), (enumL n xs)[i]? = xs[i]?.map fun x => .tup [.int ((n + i : Nat) : Int), x]
  | [], n, i => by simp [enumL]
  | x :: xs, n, 0 => by simp [enumL]
  | x :: xs, n, i + 1 => by
    show (enumL (n + 1) xs)[i]? = _
    rw [enumL_get xs (n + 1) i, List.getElem?_cons_succ, show n + 1 + i = n + (i + 1) by omega]
theorem enumL_len : ∀ (xs : List Val) (n : Nat), (enumL n xs).length = xs.length
  | [], _ => rfl
  | x :: xs, n => congrArg (· + 1) (enumL_len xs (n + 1))
theorem walkV_enum {N : Hp} {a : Addr} {vs : List V} {xs : List Val} (h : SqL K N a vs) (r : RVs K N vs xs) : WalkV K N (Ite K a) (enumL 0 xs) := by
  refine ⟨_, _, by rw [enumL_len, ← r.length]; exact walk_enum, fun H e => sq_mono e.sub h, fun i H v H' hi e y => ?_⟩
  obtain ⟨T, x, z, rfl, hT, rfl, h1, h2⟩ := y
  cases h1
  obtain ⟨u, h3, h4⟩ := r.getV h2
  have g := Gr.new (o := .tup [.int (i : Nat), z]) e hT
  refine ⟨_, .tup [.int ((0 + i : Nat) : Int), u], g, by rw [enumL_get, h3]; rfl, ?_⟩
  rw [Nat.zero_add]
  exact .tup (SqP.of upd_same) (.cons (.int _) (.cons (h4.mono g.nn) .nil))
theorem ei_enum {ta : TE} {ma : EX} (ha : EvE K C ta ma) : EvI K C (iEnum K (tCons ta tNil)) (iEnumV ma) := fun N H σ env e s R h => by
  refine ha N H σ env e s _ (PostR.imp (PostR.bind h) fun x N1 H1 g1 h1 v rv => ?_)
  cases rv with
  | lst hs r => exact ⟨_, _, rfl, sq_mono g1.nh hs, h1 N1 H1 (Gr.refl g1.nh) _ (walkV_enum hs r)⟩
  | _ => exact h1.elim
end
abbrev C0 (C : Cn) : Cn := { C with W := none }
theorem PostR.nx {α : Type} {C : Cn} {σ : L2.St} {N H : Hp} {r : Res α} {P : α → Hp → Hp → Prop} (h : PostR C σ N H r.nx P) : ∃ x, r = .ok x ∧ ∀ N' H', Gr N H N' H' → P x N' H' := by
  cases r with
  | ok x => exact ⟨x, rfl, h⟩
  | exc e => exact h.elim
  | bad => exact h.elim
section
variable {K : PySem.W.Frag} {C : Cn}
/-- one turn's way through the comprehension -/
theorem compL_cons {put : Put} {tt : EB} {el : EX} {env : Env} {x : Val} {xs r : List Val} (h : compL put tt el env (x :: xs) = .ok r) :
    ∃ e b, put x env = .ok e ∧ tt e = .ok b ∧ ((b = true ∧ ∃ y r', el e = .ok y ∧ compL put tt el env xs = .ok r' ∧ r = y :: r') ∨ (b = false ∧ compL put tt el env xs = .ok r)) := by
  unfold compL at h
  cases h1 : put x env with
  | bad => rw [h1] at h; cases h
  | exc q => rw [h1] at h; cases h
  | ok e =>
    rw [h1] at h
    replace h : ((tt e).nx.bind fun b => bif b then (el e).nx.bind fun y => (compL put tt el env xs).bind fun r => .ok (y :: r) else compL put tt el env xs) = .ok r := h
    cases h2 : tt e with
    | bad => rw [h2] at h; cases h
    | exc q => rw [h2] at h; cases h
    | ok b =>
      rw [h2] at h
      refine ⟨e, b, rfl, h2, ?_⟩
      cases b with
      | false => exact .inr ⟨rfl, h⟩
      | true =>
        replace h : ((el e).nx.bind fun y => (compL put tt el env xs).bind fun r => .ok (y :: r)) = .ok r := h
        cases h3 : el e with
        | bad => rw [h3] at h; cases h
        | exc q => rw [h3] at h; cases h
        | ok y =>
          rw [h3] at h
          replace h : ((compL put tt el env xs).bind fun r => .ok (y :: r)) = .ok r := h
          cases h4 : compL put tt el env xs with
          | bad => rw [h4] at h; cases h
          | exc q => rw [h4] at h; cases h
          | ok r' =>
            rw [h4] at h
            cases h
            exact .inl ⟨rfl, y, r', rfl, rfl, rfl⟩
theorem compL_len {put : Put} {tt : EB} {el : EX} {env : Env} : ∀ {xs r : List Val}, compL put tt el env xs = .ok r → r.length ≤ xs.length
  | [], r, h => by cases h; exact Nat.le_refl _
  | x :: xs, r, h => by
    obtain ⟨e, b, _, _, h1 | h1⟩ := compL_cons h
    · obtain ⟨_, y, r', _, h2, rfl⟩ := h1
      have := compL_len h2
      simp only [List.length_cons]
      omega
    · have := compL_len h1.2
      simp only [List.length_cons]
      omega
theorem ef_comp_at {wi : TI} {it : EI} {g : TG} {put : Put} {is own : List Nat} {tt : TT} {te : TE} {mt : EB} {me : EX} {N H : Hp} {σ : L2.St} {env : Env} (hi : ∀ R : It → Hp → Prop, PostR C σ N H (it env) (fun xs N' H' => ∀ J, WalkV K N' J xs → R J H') → wi σ H R) (hp : EvP K g put is) (hsub : ∀ i ∈ is, i ∈ own)
    (ht : EvB K (C0 C) tt mt) (he : EvE K (C0 C) te me) (e : Inn N H) (s : SV K N σ env) (Q : VK) (h : PostR C σ N H (eComp it own put mt me env) (fun x N' H' => ∃ xs, x = .lst xs ∧ ∀ p vs, H' p = none → RVs K N' vs xs → Q (.ref p) (upd H' p (.lst vs)))) : tLc wi g tt te own σ H Q := by
  refine hi _ (PostR.imp (PostR.bind h) fun xs N1 H1 g1 h1 J hJ => ?_)
  intro D hD
  split at h1
  · rename_i hsz
    obtain ⟨G, Y, w, hG, hY⟩ := hJ
    cases hc : compL put mt me (wipeE env own) xs with
    | bad => rw [hc] at h1; exact h1.elim
    | exc q =>
      exfalso
      have : ∀ (xs : List Val), compL put mt me (wipeE env own) xs ≠ .exc q := by
        intro xs
        induction xs with
        | nil => intro h; cases h
        | cons x xs ih =>
          intro h
          unfold compL at h
          cases h1 : put x (wipeE env own) with
          | bad => rw [h1] at h; cases h
          | exc q => rw [h1] at h; cases h
          | ok e =>
            rw [h1] at h
            replace h : ((mt e).nx.bind fun b => bif b then (me e).nx.bind fun y => (compL put mt me (wipeE env own) xs).bind fun r => .ok (y :: r) else compL put mt me (wipeE env own) xs) = .exc q := h
            cases h2 : mt e with
            | bad => rw [h2] at h; cases h
            | exc q => rw [h2] at h; cases h
            | ok b =>
              rw [h2] at h
              cases b with
              | false => exact ih h
              | true =>
                replace h : ((me e).nx.bind fun y => (compL put mt me (wipeE env own) xs).bind fun r => .ok (y :: r)) = .exc q := h
                cases h3 : me e with
                | bad => rw [h3] at h; cases h
                | exc q => rw [h3] at h; cases h
                | ok y =>
                  rw [h3] at h
                  replace h : ((compL put mt me (wipeE env own) xs).bind fun r => .ok (y :: r)) = .exc q := h
                  cases h4 : compL put mt me (wipeE env own) xs with
                  | bad => rw [h4] at h; cases h
                  | exc q' => rw [h4] at h; cases h; exact ih h4
                  | ok r' => rw [h4] at h; cases h
      exact this xs hc
    | ok r =>
      rw [hc] at h1
      have fin : ∀ N' H', Gr N1 H1 N' H' → ∀ p vs, H' p = none → RVs K N' vs r → Q (.ref p) (upd H' p (.lst vs)) := fun N' H' g p vs => by
        obtain ⟨ys, e1, h2⟩ := (show ∀ N' H', Gr N1 H1 N' H' → ∃ ys, Val.lst r = .lst ys ∧ ∀ p vs, H' p = none → RVs K N' vs ys → Q (.ref p) (upd H' p (.lst vs)) from h1) N' H' g
        cases e1
        exact h2 p vs
      have s1 : SV K N1 σ env := s.mono g1.nn
      refine lc_it w (fun i H' => ∃ N' Hn acc ys rest, Gr N1 H1 N' Hn ∧ Hn D = none ∧ H' = upd Hn D (.lst acc) ∧ RVs K N' acc ys ∧ acc.length ≤ i ∧ compL put mt me (wipeE env own) (xs.drop i) = .ok rest ∧ ys ++ rest = r)
        ⟨N1, H1, [], [], r, Gr.refl g1.nh, hD, rfl, .nil, Nat.zero_le _, by rw [List.drop_zero]; exact hc, rfl⟩ ?_ ?_ ?_
      · rintro i H' hi ⟨N', Hn, acc, ys, rest, g2, hn, rfl, _⟩
        exact hG _ ((g2.up g1.nh).newH hn)
      · rintro i x Hi Hx hi ⟨N', Hn, acc, ys, rest, g2, hn, rfl, hacc, hlen, hrest, hr⟩ y
        -- the turn's item
        have sb : Inn N1 (upd Hn D (.lst acc)) := (g2.up g1.nh).newH hn
        have sb' : Inn N' (upd Hn D (.lst acc)) := g2.nh.newH hn
        obtain ⟨Nx, xv, gx, hxi, rx⟩ := hY i _ x Hx hi sb y
        rw [List.drop_eq_getElem_cons hi] at hrest
        have hxe : xs[i] = xv := by rw [List.getElem?_eq_getElem hi] at hxi; exact Option.some.inj hxi
        rw [hxe] at hrest
        obtain ⟨e1, b, hput, hb, hways⟩ := compL_cons hrest
        -- the frozen part at this turn: both what the turns before and what the item made
        let Nu : Hp := fun a => if Nx a = none then N' a else Nx a
        have u1 : Sub Nx Nu := fun a o q => by show (if Nx a = none then N' a else Nx a) = some o; rw [if_neg (by rw [q]; simp)]; exact q
        have sbx : Inn N' Hx := gx.up sb'
        have u2 : Inn Nu Hx := gx.nh.part fun a o q => by
          have q' : (if Nx a = none then N' a else Nx a) = some o := q
          by_cases hz : Nx a = none
          · rw [if_pos hz] at q'; exact ⟨sbx a o q', .inr (sbx.nt a o q')⟩
          · rw [if_neg hz] at q'; exact ⟨gx.nh a o q', .inl q'⟩
        have u3 : Sub N' Nu := fun a o q => by
          show (if Nx a = none then N' a else Nx a) = some o
          by_cases hz : Nx a = none
          · rw [if_pos hz]; exact q
          · rw [if_neg hz]
            cases hq : Nx a with
            | none => exact absurd hq hz
            | some o' =>
              have h1 := gx.nh a o' hq
              have h2 := sbx a o q
              rw [h1] at h2
              exact h2
        have u4 : ∀ a, Nu a ≠ none → N' a ≠ none ∨ Hn a = none := fun a q => by
          have q' : (if Nx a = none then N' a else Nx a) ≠ none := q
          by_cases hz : Nx a = none
          · rw [if_pos hz] at q'; exact .inl q'
          · rcases gx.nw a hz with h1 | h1
            · cases hq : N1 a with
              | none => exact absurd hq h1
              | some o => exact .inl (by rw [g2.nn a o hq]; simp)
            · right
              cases hq : Hn a with
              | none => rfl
              | some o =>
                have hne : a ≠ D := ne_of_none hq hn
                rw [upd_ne hne, hq] at h1
                cases h1
        have rxu : RV K Nu x xv := rx.mono u1
        refine hp Nu Hx (L2.wipe σ own) (wipeE env own) x xv e1 u2 rxu hput _ fun l hl he1 => ?_
        refine ⟨by rw [wipe_sets (fun t ht => hsub _ (hl t ht).1), wipe_wipe fun v hv => hv], ?_⟩
        have s2 : SV K Nu (setsS (L2.wipe σ own) l) e1 := by
          rw [he1]
          exact ((s1.mono (fun a o q => u3 a o (g2.nn a o q))).wipe own).sets fun t ht => (hl t ht).2
        -- the heap with D's list hidden again
        have hDx : Hx D = some (.lst acc) := gx.hh.to D _ upd_same rfl
        refine ht Nu Hx _ e1 u2 s2 _ ?_
        rw [hb]
        intro N3 H3 g3
        have hD3 : H3 D = some (.lst acc) := g3.hh.to D _ hDx rfl
        -- from a state behind: take D out of the frozen part and out of the heap
        have back : ∀ {N4 H4 : Hp}, Gr Nu Hx N4 H4 → ∃ H5, Gr N1 H1 N4 H5 ∧ H5 D = none ∧ Sub N' N4 ∧ ∀ o, upd H5 D o = upd H4 D o := fun {N4 H4} g4 => by
          have n4 : N4 D = none := by
            cases hq : N4 D with
            | none => rfl
            | some o =>
              rcases g4.nw D (by rw [hq]; simp) with h1 | h1
              · rcases u4 D h1 with h2 | h2
                · cases hq2 : N' D with
                  | none => exact absurd hq2 h2
                  | some o2 => have := g2.nh D o2 hq2; rw [hn] at this; cases this
                · -- Nu D known, yet Hn D = none: D is the list itself
                  cases hq2 : Nu D with
                  | none => exact absurd hq2 h1
                  | some o2 =>
                    exfalso
                    have q' : (if Nx D = none then N' D else Nx D) = some o2 := hq2
                    by_cases hz : Nx D = none
                    · rw [if_pos hz] at q'
                      have := g2.nh D o2 q'
                      rw [hn] at this
                      cases this
                    · rcases gx.nw D hz with h3 | h3
                      · cases hq3 : N1 D with
                        | none => exact absurd hq3 h3
                        | some o3 => have := g1.nh D o3 hq3; rw [hD] at this; cases this
                      · rw [upd_same] at h3; cases h3
              · rw [hDx] at h1; cases h1
          refine ⟨fun a => if a = D then none else H4 a, ⟨?_, fun a o q => g4.nn a o (u3 a o (g2.nn a o q)), g4.nh.hid n4 (g4.hh.to D _ hDx rfl), fun a q => ?_⟩, if_pos rfl, fun a o q => g4.nn a o (u3 a o q), fun o => ?_⟩
          · exact (((g2.hh.upd hD).trans gx.hh).trans g4.hh).hid hD
          · rcases g4.nw a q with h1 | h1
            · rcases u4 a h1 with h2 | h2
              · exact g2.nw a h2
              · exact .inr (g2.hh.free h2)
            · right
              exact ((g2.hh.upd hD).trans gx.hh).free h1
          · funext a
            unfold upd
            by_cases ha : a = D
            · rw [if_pos ha, if_pos ha]
            · rw [if_neg ha, if_neg ha]
              show (if a = D then none else H4 a) = H4 a
              rw [if_neg ha]
        rcases hways with ⟨rfl, yv, r', hel, hr', hrr⟩ | ⟨rfl, hr'⟩
        · show te _ H3 _
          refine he N3 H3 _ e1 g3.nh (s2.mono g3.nn) _ ?_
          rw [hel]
          intro N4 H4 g4 v rv
          have g34 := g3.trans g4
          refine ⟨acc, g4.hh.to D _ hD3 rfl, Nat.lt_of_lt_of_le (Nat.lt_of_le_of_lt hlen hi) (Nat.le_trans hsz (by rw [line_eq]; exact Nat.le_refl _)), ?_⟩
          obtain ⟨H5, g5, h5, sub5, hu⟩ := back g34
          refine ⟨N4, H5, acc ++ [v], ys ++ [yv], r', g5, h5, (hu _).symm, (hacc.mono sub5).append (.cons rv .nil), by simp only [List.length_append, List.length_singleton]; omega, hr', by rw [← hr, hrr, List.append_assoc]; rfl⟩
        · show ∃ N' Hn acc ys rest, _
          obtain ⟨H5, g5, h5, sub5, hu⟩ := back g3
          refine ⟨N3, H5, acc, ys, rest, g5, h5, ?_, hacc.mono sub5, by omega, hr', hr⟩
          rw [hu]
          funext a
          unfold upd
          by_cases ha : a = D
          · rw [if_pos ha, ha]; exact hD3
          · rw [if_neg ha]
      · rintro H' ⟨N', Hn, acc, ys, rest, g2, hn, rfl, hacc, hlen, hrest, hr⟩
        rw [List.drop_length] at hrest
        cases hrest
        rw [List.append_nil] at hr
        subst hr
        exact fin N' Hn g2 D acc hn hacc
  · exact h1.elim
theorem ef_comp {wi : TI} {it : EI} {g : TG} {put : Put} {is own : List Nat} {tt : TT} {te : TE} {mt : EB} {me : EX} (hi : EvI K C wi it) (hp : EvP K g put is) (hsub : ∀ i ∈ is, i ∈ own)
    (ht : EvB K (C0 C) tt mt) (he : EvE K (C0 C) te me) : EvF K C (tLc wi g tt te own) (eComp it own put mt me) := fun N H σ env e s Q h => ef_comp_at (fun R => hi N H σ env e s R) hp hsub ht he e s Q h
end
end Vm
namespace Vm
open PySem L2 PyProof.Rows
variable [TabsOf]
theorem vals3 {x y z : V} {us : List Value} (r : Vals [x, y, z] us) : ∃ u w' v', us = [u, w', v'] ∧ RelV x u ∧ RelV y w' ∧ RelV z v' := by
  cases r with
  | cons r1 r2 =>
    obtain ⟨u, w', e, h1, h2⟩ := vals2 r2
    subst e
    exact ⟨_, _, _, rfl, r1, h1, h2⟩
theorem call_max3 {X : Cx} (hc : X.calm = true) : CallR X (.builtin "max") (fun xs H Q => ∃ i j k, xs = [.int i, .int j, .int k] ∧ Q (.int (if k > (if j > i then j else i) then k else (if j > i then j else i))) H) := by
  intro pins s σ H xs us Q I r h
  obtain ⟨i, j, k, rfl, q⟩ := h
  obtain ⟨u, w', v', rfl, ⟨t, rfl⟩, ⟨t', rfl⟩, ⟨t2, rfl⟩⟩ := vals3 r
  refine max_three_ints (I.ok.hd hc) fun h' tk hk => ⟨.int (if k > (if j > i then j else i) then k else (if j > i then j else i)), H, I.kept hk, ?_, q⟩
  by_cases h1 : j > i
  · rw [if_pos h1, if_pos h1]
    by_cases h2 : k > j
    · rw [if_pos h2, if_pos h2]; exact ⟨_, rfl⟩
    · rw [if_neg h2, if_neg h2]; exact ⟨_, rfl⟩
  · rw [if_neg h1, if_neg h1]
    by_cases h2 : k > i
    · rw [if_pos h2, if_pos h2]; exact ⟨_, rfl⟩
    · rw [if_neg h2, if_neg h2]; exact ⟨_, rfl⟩
section
variable {K : PySem.W.Frag}
theorem vals1r {N : Hp} {vs : List V} {x : Val} (r : RVs K N vs [x]) : ∃ v, vs = [v] ∧ RV K N v x := by
  cases r with
  | cons h t => cases t; exact ⟨_, rfl, h⟩
theorem vals2r {N : Hp} {vs : List V} {x y : Val} (r : RVs K N vs [x, y]) : ∃ v w, vs = [v, w] ∧ RV K N v x ∧ RV K N w y := by
  cases r with
  | cons h t => obtain ⟨w, rfl, h2⟩ := vals1r t; exact ⟨_, _, rfl, h, h2⟩
theorem vals3r {N : Hp} {vs : List V} {x y z : Val} (r : RVs K N vs [x, y, z]) : ∃ v w u, vs = [v, w, u] ∧ RV K N v x ∧ RV K N w y ∧ RV K N u z := by
  cases r with
  | cons h t => obtain ⟨w, u, rfl, h2, h3⟩ := vals2r t; exact ⟨_, _, _, rfl, h, h2, h3⟩
def rLenC (K : PySem.W.Frag) : List V → Hp → VK → Prop := fun xs H Q => (∃ p ys, xs = [.ref p] ∧ (SqL K H p ys ∨ SqT K H p ys) ∧ Q (.int ys.length) H) ∨ ∃ z, xs = [.str z] ∧ z.length ≤ sizeLine ∧ Q (.int z.length) H
theorem call_lenC {X : Cx} : CallR X (.builtin "len") (rLenC X.K) := CallR.or call_len_seq call_len_str
theorem ca_len : CaS K (rLenC K) vLen := by
  intro N H e vs xs rs Q ⟨z, hz, k⟩
  unfold vLen at hz
  split at hz
  · obtain ⟨v, rfl, rv⟩ := vals1r rs
    cases hz
    cases rv with
    | lst h r => exact .inl ⟨_, _, rfl, .inl (sq_mono e.sub h), k N H (Gr.refl e) _ (by rw [r.length]; exact .int _)⟩
  · obtain ⟨v, rfl, rv⟩ := vals1r rs
    cases hz
    cases rv with
    | tup h r => exact .inl ⟨_, _, rfl, .inr (st_mono e.sub h), k N H (Gr.refl e) _ (by rw [r.length]; exact .int _)⟩
  · obtain ⟨v, rfl, rv⟩ := vals1r rs
    obtain ⟨h1, rfl⟩ := ite_ok hz
    cases rv
    exact .inr ⟨_, rfl, len_line h1, k N H (Gr.refl e) _ (.int _)⟩
  · cases hz
theorem nx_len (xs : List Val) : NX (vLen xs) := by
  unfold vLen
  split <;> first | exact nx_ok | exact nx_ite nx_ok nx_bad | exact nx_bad
theorem opt_ok {α : Type} {β : Type} {o : Option α} {f : α → Res β} {z : β} (h : (Res.ofOpt o).bind f = .ok z) : ∃ a, o = some a ∧ f a = .ok z := by
  cases o with
  | none => cases h
  | some a => exact ⟨a, rfl, h⟩
theorem digit_text {z : Str} {n : Int} (h : digitOf z = some n) : PySem.intText? z = some n ∧ z.length ≤ 640 := by
  obtain ⟨⟨l⟩⟩ := z
  unfold digitOf at h
  match l, h with
  | [c], h =>
    have h : (if 48 ≤ c ∧ c ≤ 57 then some ((c : Int) - 48) else none) = some n := h
    split at h
    · rename_i hc
      cases h
      refine ⟨?_, by show 1 ≤ 640; omega⟩
      have : c = 48 ∨ c = 49 ∨ c = 50 ∨ c = 51 ∨ c = 52 ∨ c = 53 ∨ c = 54 ∨ c = 55 ∨ c = 56 ∨ c = 57 := by omega
      rcases this with rfl | rfl | rfl | rfl | rfl | rfl | rfl | rfl | rfl | rfl <;> decide +kernel
    · cases h
  | [], h => cases h
  | _ :: _ :: _, h => cases h
def rIntC : List V → Hp → VK → Prop := fun xs H Q => ((∃ i, xs = [.int i] ∧ Q (.int i) H) ∨ ∃ k, xs = [.bl k] ∧ Q (.int (if k then 1 else 0)) H) ∨ ∃ a n, xs = [.str a] ∧ PySem.intText? a = some n ∧ a.length ≤ 640 ∧ Q (.int n) H
theorem call_intC {X : Cx} : CallR X (.type "int") rIntC := CallR.or call_int1 call_int_str
theorem ca_int : CaS K rIntC vInt := by
  intro N H e vs xs rs Q ⟨z, hz, k⟩
  unfold vInt at hz
  split at hz
  · obtain ⟨v, rfl, rv⟩ := vals1r rs
    obtain ⟨n, hn, hz⟩ := opt_ok hz
    cases hz
    cases rv
    obtain ⟨h1, h2⟩ := digit_text hn
    exact .inr ⟨_, _, rfl, h1, h2, k N H (Gr.refl e) _ (.int _)⟩
  · obtain ⟨v, rfl, rv⟩ := vals1r rs
    cases hz
    cases rv
    exact .inl (.inl ⟨_, rfl, k N H (Gr.refl e) _ (.int _)⟩)
  · obtain ⟨v, rfl, rv⟩ := vals1r rs
    cases hz
    cases rv
    exact .inl (.inr ⟨_, rfl, k N H (Gr.refl e) _ (.int _)⟩)
  · cases hz
theorem nx_int (xs : List Val) : NX (vInt xs) := by unfold vInt; split <;> first | exact nx_ok | exact nx_bad | exact nx_bind nx_ofOpt (fun _ => nx_ok)
theorem ca_sum : CaS K (rSum K) vSum := by
  intro N H e vs xs rs Q ⟨z, hz, k⟩
  unfold vSum at hz
  split at hz
  · obtain ⟨v, rfl, rv⟩ := vals1r rs
    obtain ⟨ns, h1, h2⟩ := opt_ok hz
    have h3 := intsOf_eq h1
    subst h3
    cases h2
    cases rv with
    | lst h r =>
      have h4 := r.ofInts
      subst h4
      exact ⟨_, ns, rfl, sq_mono e.sub h, k N H (Gr.refl e) _ (.int _)⟩
  · cases hz
theorem nx_sum (xs : List Val) : NX (vSum xs) := by unfold vSum; split <;> first | exact nx_bind nx_ofOpt (fun _ => nx_ok) | exact nx_bad
theorem maxL_spec : ∀ (ns : List Int) (m : Int), (maxL m ns = m ∨ maxL m ns ∈ ns) ∧ m ≤ maxL m ns ∧ ∀ y ∈ ns, y ≤ maxL m ns
  | [], m => ⟨.inl rfl, Int.le_refl _, fun y h => by cases h⟩
  | x :: ns, m => by
    obtain ⟨h1, h2, h3⟩ := maxL_spec ns (if x > m then x else m)
    show (maxL (if x > m then x else m) ns = m ∨ maxL (if x > m then x else m) ns ∈ x :: ns) ∧ m ≤ maxL (if x > m then x else m) ns ∧ ∀ y ∈ x :: ns, y ≤ maxL (if x > m then x else m) ns
    by_cases hx : x > m
    · rw [if_pos hx] at h1 h2 h3 ⊢
      refine ⟨.inr ?_, by omega, fun y hy => ?_⟩
      · rcases h1 with h | h
        · rw [h]; exact List.mem_cons_self
        · exact List.mem_cons_of_mem _ h
      · rcases List.mem_cons.mp hy with rfl | hy
        · exact h2
        · exact h3 y hy
    · rw [if_neg hx] at h1 h2 h3 ⊢
      refine ⟨?_, h2, fun y hy => ?_⟩
      · rcases h1 with h | h
        · exact .inl h
        · exact .inr (List.mem_cons_of_mem _ h)
      · rcases List.mem_cons.mp hy with rfl | hy
        · omega
        · exact h3 y hy
theorem minL_spec : ∀ (ns : List Int) (m : Int), (minL m ns = m ∨ minL m ns ∈ ns) ∧ minL m ns ≤ m ∧ ∀ y ∈ ns, minL m ns ≤ y
  | [], m => ⟨.inl rfl, Int.le_refl _, fun y h => by cases h⟩
  | x :: ns, m => by
    obtain ⟨h1, h2, h3⟩ := minL_spec ns (if x < m then x else m)
    show (minL (if x < m then x else m) ns = m ∨ minL (if x < m then x else m) ns ∈ x :: ns) ∧ minL (if x < m then x else m) ns ≤ m ∧ ∀ y ∈ x :: ns, minL (if x < m then x else m) ns ≤ y
    by_cases hx : x < m
    · rw [if_pos hx] at h1 h2 h3 ⊢
      refine ⟨.inr ?_, by omega, fun y hy => ?_⟩
      · rcases h1 with h | h
        · rw [h]; exact List.mem_cons_self
        · exact List.mem_cons_of_mem _ h
      · rcases List.mem_cons.mp hy with rfl | hy
        · exact h2
        · exact h3 y hy
    · rw [if_neg hx] at h1 h2 h3 ⊢
      refine ⟨?_, h2, fun y hy => ?_⟩
      · rcases h1 with h | h
        · exact .inl h
        · exact .inr (List.mem_cons_of_mem _ h)
      · rcases List.mem_cons.mp hy with rfl | hy
        · omega
        · exact h3 y hy
theorem maxL_uniq {n m : Int} {ns : List Int} (h1 : m ∈ n :: ns) (h2 : ∀ y, y ∈ n :: ns → y ≤ m) : m = maxL n ns := by
  obtain ⟨a, b, c⟩ := maxL_spec ns n
  have h3 : maxL n ns ≤ m := by
    rcases a with a | a
    · rw [a]; exact h2 n List.mem_cons_self
    · exact h2 _ (List.mem_cons_of_mem _ a)
  have h4 : m ≤ maxL n ns := by
    rcases List.mem_cons.mp h1 with rfl | h
    · exact b
    · exact c m h
  omega
theorem minL_uniq {n m : Int} {ns : List Int} (h1 : m ∈ n :: ns) (h2 : ∀ y, y ∈ n :: ns → m ≤ y) : m = minL n ns := by
  obtain ⟨a, b, c⟩ := minL_spec ns n
  have h3 : m ≤ minL n ns := by
    rcases a with a | a
    · rw [a]; exact h2 n List.mem_cons_self
    · exact h2 _ (List.mem_cons_of_mem _ a)
  have h4 : minL n ns ≤ m := by
    rcases List.mem_cons.mp h1 with rfl | h
    · exact b
    · exact c m h
  omega
def rMaxC (K : PySem.W.Frag) : List V → Hp → VK → Prop := fun xs H Q => (∃ i j, xs = [.int i, .int j] ∧ Q (.int (if j > i then j else i)) H) ∨ (∃ i j k, xs = [.int i, .int j, .int k] ∧ Q (.int (if k > (if j > i then j else i) then k else (if j > i then j else i))) H) ∨ rMax K xs H Q
theorem call_maxC {X : Cx} (hc : X.calm = true) : CallR X (.builtin "max") (rMaxC X.K) := CallR.or (call_max2 hc) (CallR.or (call_max3 hc) (cr_max hc))
def rMinC (K : PySem.W.Frag) : List V → Hp → VK → Prop := fun xs H Q => (∃ i j, xs = [.int i, .int j] ∧ Q (.int (if j < i then j else i)) H) ∨ rMin K xs H Q
theorem call_minC {X : Cx} (hc : X.calm = true) : CallR X (.builtin "min") (rMinC X.K) := CallR.or (call_min2 hc) (cr_min hc)
theorem ca_max : CaS K (rMaxC K) vMax := by
  intro N H e vs xs rs Q ⟨z, hz, k⟩
  unfold vMax at hz
  split at hz
  · obtain ⟨v, w, rfl, r1, r2⟩ := vals2r rs
    cases hz
    cases r1
    cases r2
    exact .inl ⟨_, _, rfl, k N H (Gr.refl e) _ (.int _)⟩
  · obtain ⟨v, w, u, rfl, r1, r2, r3⟩ := vals3r rs
    cases hz
    cases r1
    cases r2
    cases r3
    exact .inr (.inl ⟨_, _, _, rfl, k N H (Gr.refl e) _ (.int _)⟩)
  · obtain ⟨v, rfl, rv⟩ := vals1r rs
    obtain ⟨ns, h1, h2⟩ := opt_ok hz
    have h3 := intsOf_eq h1
    subst h3
    split at h2
    · cases h2
    · rename_i n ns
      cases h2
      cases rv with
      | lst h r =>
        have h4 := r.ofInts
        subst h4
        exact .inr (.inr ⟨_, n :: ns, rfl, sq_mono e.sub h, Nat.succ_pos _, fun m hm hb => k N H (Gr.refl e) _ (by rw [maxL_uniq hm hb]; exact .int _)⟩)
  · cases hz
theorem ca_min : CaS K (rMinC K) vMin := by
  intro N H e vs xs rs Q ⟨z, hz, k⟩
  unfold vMin at hz
  split at hz
  · obtain ⟨v, w, rfl, r1, r2⟩ := vals2r rs
    cases hz
    cases r1
    cases r2
    exact .inl ⟨_, _, rfl, k N H (Gr.refl e) _ (.int _)⟩
  · obtain ⟨v, rfl, rv⟩ := vals1r rs
    obtain ⟨ns, h1, h2⟩ := opt_ok hz
    have h3 := intsOf_eq h1
    subst h3
    split at h2
    · cases h2
    · rename_i n ns
      cases h2
      cases rv with
      | lst h r =>
        have h4 := r.ofInts
        subst h4
        exact .inr ⟨_, n :: ns, rfl, sq_mono e.sub h, Nat.succ_pos _, fun m hm hb => k N H (Gr.refl e) _ (by rw [minL_uniq hm hb]; exact .int _)⟩
  · cases hz
theorem nx_max (xs : List Val) : NX (vMax xs) := by
  unfold vMax
  split
  · exact nx_ok
  · exact nx_ok
  · exact nx_bind nx_ofOpt fun ns => by split <;> first | exact nx_bad | exact nx_ok
  · exact nx_bad
theorem nx_min (xs : List Val) : NX (vMin xs) := by
  unfold vMin
  split
  · exact nx_ok
  · exact nx_bind nx_ofOpt fun ns => by split <;> first | exact nx_bad | exact nx_ok
  · exact nx_bad
theorem ca_any : CaS K (rAny K) vAny := by
  intro N H e vs xs rs Q ⟨z, hz, k⟩
  unfold vAny at hz
  split at hz
  · obtain ⟨v, rfl, rv⟩ := vals1r rs
    obtain ⟨ns, h1, h2⟩ := opt_ok hz
    have h3 := blsOf_eq h1
    subst h3
    cases h2
    cases rv with
    | lst h r =>
      have h4 := r.ofBls
      subst h4
      exact ⟨_, ns, rfl, sq_mono e.sub h, k N H (Gr.refl e) _ (.bl _)⟩
  · cases hz
theorem ca_all : CaS K (rAll K) vAll := by
  intro N H e vs xs rs Q ⟨z, hz, k⟩
  unfold vAll at hz
  split at hz
  · obtain ⟨v, rfl, rv⟩ := vals1r rs
    obtain ⟨ns, h1, h2⟩ := opt_ok hz
    have h3 := blsOf_eq h1
    subst h3
    cases h2
    cases rv with
    | lst h r =>
      have h4 := r.ofBls
      subst h4
      exact ⟨_, ns, rfl, sq_mono e.sub h, k N H (Gr.refl e) _ (.bl _)⟩
  · cases hz
theorem nx_any (xs : List Val) : NX (vAny xs) := by unfold vAny; split <;> first | exact nx_bind nx_ofOpt (fun _ => nx_ok) | exact nx_bad
theorem nx_all (xs : List Val) : NX (vAll xs) := by unfold vAll; split <;> first | exact nx_bind nx_ofOpt (fun _ => nx_ok) | exact nx_bad
def rListC (K : PySem.W.Frag) : List V → Hp → VK → Prop := fun xs H Q => ∃ p ys, xs = [.ref p] ∧ (SqL K H p ys ∨ SqT K H p ys) ∧ ∀ l, H l = none → Q (.ref l) (upd H l (.lst ys))
def rTupC (K : PySem.W.Frag) : List V → Hp → VK → Prop := fun xs H Q => ∃ p ys, xs = [.ref p] ∧ ((SqL K H p ys ∧ ∀ l, H l = none → Q (.ref l) (upd H l (.tup ys))) ∨ (SqT K H p ys ∧ Q (.ref p) H))
theorem ca_tupOf : CaS K (rTupC K) vTupOf := by
  intro N H e vs xs rs Q ⟨z, hz, k⟩
  unfold vTupOf at hz
  split at hz
  · obtain ⟨v, rfl, rv⟩ := vals1r rs
    cases hz
    cases rv with
    | lst h r => exact ⟨_, _, rfl, .inl ⟨sq_mono e.sub h, fun l hl => k _ _ (Gr.new e hl) _ (.tup (SqP.of upd_same) (r.mono (Gr.new e hl).nn))⟩⟩
  · obtain ⟨v, rfl, rv⟩ := vals1r rs
    cases hz
    cases rv with
    | tup h r => exact ⟨_, _, rfl, .inr ⟨st_mono e.sub h, k N H (Gr.refl e) _ (.tup h r)⟩⟩
  · cases hz
theorem nx_tupOf (xs : List Val) : NX (vTupOf xs) := by unfold vTupOf; split <;> first | exact nx_ok | exact nx_bad
theorem ef_listOf {C : Cn} {t : TA} {m : EL} (ha : EvA K C t m) : EvF K C (tCB (rListC K) t) (eArgs vListOf m) := fun N H σ env e s Q h => by
  refine ha N H σ env e s _ (PostR.imp (PostR.bind h) fun xs N1 H1 g1 h1 vs rs => ?_)
  unfold vListOf at h1
  split at h1
  · obtain ⟨v, rfl, rv⟩ := vals1r rs
    cases rv with
    | lst hs r =>
      obtain ⟨ys, e1, h2⟩ := h1 N1 H1 (Gr.refl g1.nh)
      cases e1
      exact ⟨_, _, rfl, .inl (sq_mono g1.nh hs), fun l hl => h2 l _ hl r⟩
  · obtain ⟨v, rfl, rv⟩ := vals1r rs
    cases rv with
    | tup hs r =>
      obtain ⟨ys, e1, h2⟩ := h1 N1 H1 (Gr.refl g1.nh)
      cases e1
      exact ⟨_, _, rfl, .inr (st_mono g1.nh hs), fun l hl => h2 l _ hl r⟩
  · exact h1.elim
theorem nx_and1 (x y : Val) : NX (vAnd1 x y) := by unfold vAnd1; split <;> first | exact nx_ok | exact nx_bad
def rAnd1 : R2 := fun x y H Q => ∃ i : Int, x = .int i ∧ y = .int 1 ∧ Q (.int (i % 2)) H
theorem op_and1 {X : Cx} : OpR X (binaryOp .BitAnd) rAnd1 := by
  intro pins s σ H x y v u Q I rx ry h
  obtain ⟨i, rfl, rfl, q⟩ := h
  exact op_andM pins s σ H _ _ v u Q I rx ry ⟨i, 1, rfl, rfl, q⟩
theorem ops_and1 : OpS K rAnd1 vAnd1 := by
  intro N H e v w x y rx ry Q ⟨z, hz, k⟩
  unfold vAnd1 at hz
  split at hz
  · cases hz; cases rx; cases ry
    exact ⟨_, rfl, rfl, k N H (Gr.refl e) _ (.int _)⟩
  · cases hz
end
def Ty.nm : Ty → String
  | .int => "int"
  | .bool => "bool"
  | .str => "str"
  | .list => "list"
  | .tuple => "tuple"
  | .dict => "dict"
def tyNm (x : Val) : String := match x.ty with
  | none => "NoneType"
  | some t => t.nm
theorem kit_tab : ∀ (t : Option Ty) (u : Ty), kitB (match t with | none => "NoneType" | some t => t.nm) u.nm = some (Ty.sub t u) := by
  intro t u
  rcases t with _ | t
  · cases u <;> decide +kernel
  · cases t <;> cases u <;> decide +kernel
section
variable {K : PySem.W.Frag} {C : Cn}
theorem RV.tyx {N H : Hp} (e : Inn N H) {v : V} {x : Val} (r : RV K N v x) (no : x.isOb = false) : TyX K H v (.type (tyNm x)) := by
  cases r with
  | non => exact .base .non
  | bl b => exact .base (.bl b)
  | int i => exact .base (.int i)
  | str x => exact .base (.str x)
  | tup h _ =>
    rcases st_mono e.sub h with (h | ⟨o, h⟩) | ⟨o, its, n, hk, hc, _⟩
    · exact .base (.tup h)
    · exact .fTuple h
    · exact .kTuple hk hc
  | lst h _ =>
    rcases sq_mono e.sub h with (h | ⟨o, h⟩) | ⟨o, its, n, hk, hc, _⟩
    · exact .base (.lst h)
    · exact .base (.frz h)
    · exact .kList hk hc
  | dct h _ =>
    rcases h with h | ⟨o, h⟩
    · exact .base (.dK (e _ _ h))
    · exact .fDict (e _ _ h)
  | dck h _ => exact .fDict (e _ _ h)
  | dcT h _ => exact .base (.dT (e _ _ h))
  | ob _ _ => cases no
theorem ev_isi {ta : TE} {ma : EX} {u : Ty} (ha : EvE K C ta ma) : EvE K C (tCB (rIsi K) (tCons ta (tCons (tC (.ty u.nm)) tNil))) (e1 (vIsi u) ma) := fun N H σ env e s Q h => by
  refine ha N H σ env e s _ (PostR.imp (PostR.bind h) fun x N1 H1 g1 h1 v rv => ?_)
  unfold vIsi at h1
  cases no : x.isOb with
  | true => rw [no, if_pos rfl] at h1; exact h1.elim
  | false =>
    rw [no, if_neg (by simp)] at h1
    exact ⟨v, .ty u.nm, .type (tyNm x), .type u.nm, Ty.sub x.ty u, rfl, .ty _, rv.tyx g1.nh no, kit_ty (by
      have := kit_tab x.ty u
      exact this), h1 N1 H1 (Gr.refl g1.nh) _ (.bl _)⟩
end
/-- what a def promises: its function on values -/
def spF (K : PySem.W.Frag) (XR : XRel) (k : Nat) (f : Fn) : Sp := fun vs H Q E => ∃ N xs, Inn N H ∧ RVs K N vs xs ∧ xs.length = k ∧ (match f xs with
  | .ret y => ∀ N' H', Gr N H N' H' → ∀ v, RV K N' v y → Q v H'
  | .exc q => ∀ cls d N' H', Gr N H N' H' → XR H' cls d q → E cls d H'
  | .bad => False)
/-- a def of the module -/
structure Cal (P : Program) (w : World) (K : PySem.W.Frag) (mg : Str → Option Value) (base : Heap) (XR : XRel) (x : Str) (j k : Nat) (f : Fn) : Prop where
  ex : ∃ a fd ps, FnOk P w K mg base (L2.CX P w) j a fd ps (spF K XR k f) ∧ mg x = some (.ref a) ∧ PySem.W.keepIn K (.ref a) = true ∧ Binds K fd ps []
  ln : ∀ xs, f xs ≠ .bad → xs.length = k
/-- what is wanted of an exception, at the slots -/
def CE (C : Cn) (σ : L2.St) : XK := fun cls d H => match C.W with
  | some w => w cls d σ H
  | none => False
def Lets (X : Cx) (C : Cn) : Prop := ∀ σ, PassesAt (L2.CX X.prog X.w) X σ (CE C σ)
theorem Lets.of {X : Cx} {XR : XRel} {W : WX} (tk : Takes X W) : Lets X ⟨XR, some W⟩ := fun σ => passAt tk σ
theorem Lets.no {X : Cx} {C : Cn} : Lets X (C0 C) := fun σ pins H s e s' I c => by
  obtain ⟨_, _, _, _, _, _, _, _, _, _, _, _, z⟩ := c
  exact z.elim
theorem ev_call {K : PySem.W.Frag} {C : Cn} {k : Nat} {f : Fn} {t : TA} {m : EL} (hk : ∀ xs, f xs ≠ .bad → xs.length = k) (ha : EvA K C t m) : EvE K C (tCallS (spF K C.XR k f) (CE C) t) (eCall f m) := fun N H σ env e s Q h => by
  have hb := PostR.bind (show PostR C σ N H ((m env).bind fun xs => (f xs).res) _ from h)
  cases hm : m env with
  | bad => rw [hm] at hb; exact hb.elim
  | exc q => exact ha N H σ env e s _ (by rw [hm] at hb ⊢; exact hb)
  | ok xs0 =>
    refine ha N H σ env e s _ ?_
    rw [hm] at hb ⊢
    intro N1 H1 g1 vs rvs
    have h1 : PostR C σ N1 H1 (f xs0).res fun x N' H' => ∀ (v : V), RV K N' v x → Q v H' := hb N1 H1 g1
    refine ⟨N1, xs0, g1.nh, rvs, hk xs0 fun z => (by rw [z] at h1; exact h1), ?_⟩
    cases hf : f xs0 with
    | bad => rw [hf] at h1; exact h1
    | ret y => rw [hf] at h1; exact h1
    | exc q =>
      rw [hf] at h1
      obtain ⟨w, hw, h2⟩ := (show ExcP C σ N1 H1 q from h1)
      intro cls d N' H' g' hx
      show CE C σ cls d H'
      unfold CE
      rw [hw]
      exact h2 cls d N' H' g' hx
section
variable {X : Cx} {C : Cn}
theorem se_call {x : Str} {j k : Nat} {f : Fn} {p pos : Pos} {e : Expr} {es : List Expr} {t : TA} {m : EL} (c : Cal X.prog X.w X.K X.mg X.base C.XR x j k f) (hr : Room j X.A) (hl : Lets X C) (ha : SA X C (e :: es) t m)
    (hg : Gl X x := by rfl) (hdb : (x == ("__debug__" : Str)) = false := by decide) (he : starEach (e :: es) X.env = (false, eval e X.env) :: starEach es X.env := by rfl) (hpl : (backTo pos (starEach es X.env)).any (·.1) = false := by rfl) :
    SE X C (.Call (.Name x p) (e :: es) [] pos) (tCallS (spF X.K C.XR k f) (CE C) t) (eCall f m) := by
  obtain ⟨a, fd, ps, F, hm, hkp, hb⟩ := c.ex
  exact ⟨pe_callS F hr hg hm hkp hb hl ha.pe hdb he hpl, ev_call c.ln ha.ev⟩
end
end Vm
namespace Vm
open PySem L2 PyProof.Rows
variable [TabsOf]
section
variable {K : PySem.W.Frag} {N : Hp}
theorem RKs.get {k : Key} : ∀ {vs : List (L2.Key × V)} {xs : List (Key × Val)}, RKs K N vs xs → match getV xs k with
    | some x => ∃ v, valV vs k = some v ∧ RV K N v x
    | none => valV vs k = none
  | _, _, .nil => rfl
  | _, _, .cons (k := k0) (v := v) (vs := vs) (x := x) (xs := xs) h r => by
    have ih := RKs.get (k := k) r
    by_cases e : k0 = k
    · have h1 : getV ((k0, x) :: xs) k = some x := by simp [getV, List.find?_cons, e]
      rw [h1]
      exact ⟨v, valV_pos e, h⟩
    · have h1 : getV ((k0, x) :: xs) k = getV xs k := by simp [getV, List.find?_cons, e]
      rw [h1, valV_neg e]
      exact ih
theorem RKs.some {k : Key} {vs : List (L2.Key × V)} {xs : List (Key × Val)} (r : RKs K N vs xs) : (valV vs k).isSome = (getV xs k).isSome := by
  have h := r.get (k := k)
  cases hg : getV xs k with
  | none => rw [hg] at h; simp only at h; rw [h]; rfl
  | some x => rw [hg] at h; obtain ⟨v, h1, _⟩ := h; rw [h1]; rfl
theorem RKs.length : ∀ {vs : List (L2.Key × V)} {xs : List (Key × Val)}, RKs K N vs xs → vs.length = xs.length
  | _, _, .nil => rfl
  | _, _, .cons _ r => congrArg (· + 1) r.length
theorem RKs.anyK {k : Key} : ∀ {vs : List (L2.Key × V)} {xs : List (Key × Val)}, RKs K N vs xs → (vs.any fun kv => decide (kv.1 = k)) = (xs.any fun kv => decide (kv.1 = k))
  | _, _, .nil => rfl
  | _, _, .cons _ r => by rw [List.any_cons, List.any_cons, RKs.anyK r]
theorem RKs.mapK {k : Key} {v : V} {x : Val} (h : RV K N v x) : ∀ {vs : List (L2.Key × V)} {xs : List (Key × Val)}, RKs K N vs xs → RKs K N (vs.map fun kv => if kv.1 = k then (kv.1, v) else kv) (xs.map fun kv => if kv.1 = k then (kv.1, x) else kv)
  | _, _, .nil => .nil
  | _, _, .cons (k := k0) h0 r => by
    rw [List.map_cons, List.map_cons]
    by_cases e : k0 = k
    · simp only [e, if_true]
      exact .cons h (RKs.mapK h r)
    · simp only [e, if_false]
      exact .cons h0 (RKs.mapK h r)
theorem RKs.snoc {k : Key} {v : V} {x : Val} (h : RV K N v x) : ∀ {vs : List (L2.Key × V)} {xs : List (Key × Val)}, RKs K N vs xs → RKs K N (vs ++ [(k, v)]) (xs ++ [(k, x)])
  | _, _, .nil => .cons h .nil
  | _, _, .cons h0 r => .cons h0 (RKs.snoc h r)
theorem RKs.put {k : Key} {v : V} {x : Val} {vs : List (L2.Key × V)} {xs : List (Key × Val)} (r : RKs K N vs xs) (h : RV K N v x) : RKs K N (putK vs k v) (putV xs k x) := by
  unfold putK putV
  rw [r.anyK]
  split
  · exact r.mapK h
  · exact r.snoc h
theorem RKs.merge : ∀ {ms : List (L2.Key × V)} {ys : List (Key × Val)} {vs : List (L2.Key × V)} {xs : List (Key × Val)}, RKs K N ms ys → RKs K N vs xs → RKs K N (mergeK vs ms) (mergeV xs ys)
  | [], _, _, _, .nil, r => r
  | _ :: ms, _, vs, xs, .cons (k := k) (v := v) (x := x) (xs := ys) h m, r => show RKs K N (mergeK (putK vs k v) ms) (mergeV (putV xs k x) ys) from RKs.merge m (r.put h)
theorem keyOf_rv {w : V} {y : Val} {k : Key} (r : RV K N w y) (h : keyOfV y = some k) : w = kV k := by
  cases r with
  | int i => cases h; rfl
  | str x => cases h; rfl
  | _ => cases h
end
def rIxV (K : PySem.W.Frag) : R2 := fun x y H Q => rIx K x y H Q ∨ ∃ a v, x = .ref a ∧ DGet H a y (some v) ∧ Q v H
section
variable {X : Cx}
theorem ix_dK (hu : X.A.units + 1 < cLine) : IxR X (fun x y H Q => ∃ a v, x = .ref a ∧ DGet H a y (some v) ∧ Q v H) := by
  intro value slice pins s σ H x y v u Q I rx ry h hs
  obtain ⟨a, z, rfl, g, q⟩ := h
  obtain rfl : v = Value.ref a := rx
  exact tail_any (dict_typeIs I g) slot_dict_getitem.lookup (d_getItem hu I g ry fun w' s' I' rw' => ⟨z, H, I', rw', q⟩) hs
theorem ix_V (hu : X.A.units + 1 < cLine) : IxR X (rIxV X.K) := ix_seq.or (ix_dK hu)
def rInW (K : PySem.W.Frag) : R2 := fun x y H Q => rInV K x y H Q ∨ ∃ a o, y = .ref a ∧ DGet H a x o ∧ Q (.bl o.isSome) H
def rNotInW (K : PySem.W.Frag) : R2 := fun x y H Q => rNotInV K x y H Q ∨ ∃ a o, y = .ref a ∧ DGet H a x o ∧ Q (.bl (!o.isSome)) H
theorem op_inW (hu : X.A.units + 1 < cLine) : OpR X (compareOp .In) (rInW X.K) := OpR.or op_inV (by
  intro pins s σ H x y v u Q I rx ry h
  obtain ⟨a, o, rfl, g, q⟩ := h
  obtain rfl : u = Value.ref a := ry
  exact d_in hu I g rx fun s' I' => ⟨.bl o.isSome, H, I', rfl, q⟩)
theorem op_notInW (hu : X.A.units + 1 < cLine) : OpR X (compareOp .NotIn) (rNotInW X.K) := OpR.or op_notInV (by
  intro pins s σ H x y v u Q I rx ry h
  obtain ⟨a, o, rfl, g, q⟩ := h
  obtain rfl : u = Value.ref a := ry
  exact d_notIn hu I g rx fun s' I' => ⟨.bl (!o.isSome), H, I', rfl, q⟩)
end
section
variable {K : PySem.W.Frag} {C : Cn}
theorem nx_ixV (x y : Val) : NX (vIx x y) := by
  unfold vIx
  split
  · exact nx_ofOpt
  · exact nx_ofOpt
  · exact nx_ix _ _
theorem nx_inV (x y : Val) : NX (vIn x y) := by
  unfold vIn
  split
  · unfold vInD; split <;> first | exact nx_ok | exact nx_bad
  · unfold vInD; split <;> first | exact nx_ok | exact nx_bad
  · exact nx_in _ _
theorem nx_notInV (x y : Val) : NX (vNotIn x y) := nx_not (nx_inV x y)
theorem ops_ixV : OpS K (rIxV K) vIx := by
  intro N H e v w x y rx ry Q ⟨z, hz, k⟩
  cases rx with
  | @dct a kvs ys h r =>
    have hz : Res.ofOpt ((keyOfV y).bind (getV ys)) = .ok z := hz
    cases hk : keyOfV y with
    | none => rw [hk] at hz; cases hz
    | some q =>
      rw [hk] at hz
      have hz : Res.ofOpt (getV ys q) = .ok z := hz
      have g := r.get (k := q)
      cases hg : getV ys q with
      | none => rw [hg] at hz; cases hz
      | some x =>
        rw [hg] at hz g
        cases hz
        obtain ⟨u, h1, h2⟩ := g
        refine .inr ⟨a, u, rfl, ?_, k N H (Gr.refl e) u h2⟩
        rw [keyOf_rv ry hk, ← h1]
        exact (h.mono e).get
  | @dck a od kvs ys h0 r =>
    have hz : Res.ofOpt ((keyOfV y).bind (getV ys)) = .ok z := hz
    cases hk : keyOfV y with
    | none => rw [hk] at hz; cases hz
    | some q =>
      rw [hk] at hz
      have hz : Res.ofOpt (getV ys q) = .ok z := hz
      have g := r.get (k := q)
      cases hg : getV ys q with
      | none => rw [hg] at hz; cases hz
      | some x =>
        rw [hg] at hz g
        cases hz
        obtain ⟨u, h1, h2⟩ := g
        refine .inr ⟨a, u, rfl, ?_, k N H (Gr.refl e) u h2⟩
        rw [keyOf_rv ry hk, ← h1]
        exact (SqD.mono e (.inr ⟨_, h0⟩)).get
  | non => exact .inl (ops_ix N H e _ w .non y .non ry Q ⟨z, hz, k⟩)
  | bl b => exact .inl (ops_ix N H e _ w (.bl b) y (.bl b) ry Q ⟨z, hz, k⟩)
  | int i => exact .inl (ops_ix N H e _ w (.int i) y (.int i) ry Q ⟨z, hz, k⟩)
  | str s => exact .inl (ops_ix N H e _ w (.str s) y (.str s) ry Q ⟨z, hz, k⟩)
  | tup h r => exact .inl (ops_ix N H e _ w _ y (.tup h r) ry Q ⟨z, hz, k⟩)
  | lst h r => exact .inl (ops_ix N H e _ w _ y (.lst h r) ry Q ⟨z, hz, k⟩)
  | dcT h r => exact .inl (ops_ix N H e _ w _ y (.dcT h r) ry Q ⟨z, hz, k⟩)
  | ob h r => exact .inl (ops_ix N H e _ w _ y (.ob h r) ry Q ⟨z, hz, k⟩)
theorem ops_inW : OpS K (rInW K) vIn := by
  intro N H e v w x y rx ry Q ⟨z, hz, k⟩
  cases ry with
  | @dct a kvs ys h r =>
    have hz : vInD x ys = .ok z := hz
    unfold vInD at hz
    cases hk : keyOfV x with
    | none => rw [hk] at hz; cases hz
    | some q =>
      rw [hk] at hz
      cases hz
      refine .inr ⟨a, valV kvs q, rfl, ?_, ?_⟩
      · rw [keyOf_rv rx hk]; exact (h.mono e).get
      · rw [r.some]; exact k N H (Gr.refl e) _ (.bl _)
  | @dck a od kvs ys h0 r =>
    have hz : vInD x ys = .ok z := hz
    unfold vInD at hz
    cases hk : keyOfV x with
    | none => rw [hk] at hz; cases hz
    | some q =>
      rw [hk] at hz
      cases hz
      refine .inr ⟨a, valV kvs q, rfl, ?_, ?_⟩
      · rw [keyOf_rv rx hk]; exact (SqD.mono e (.inr ⟨_, h0⟩)).get
      · rw [r.some]; exact k N H (Gr.refl e) _ (.bl _)
  | non => exact .inl (ops_in N H e v _ x .non rx .non Q ⟨z, hz, k⟩)
  | bl b => exact .inl (ops_in N H e v _ x (.bl b) rx (.bl b) Q ⟨z, hz, k⟩)
  | int i => exact .inl (ops_in N H e v _ x (.int i) rx (.int i) Q ⟨z, hz, k⟩)
  | str s => exact .inl (ops_in N H e v _ x (.str s) rx (.str s) Q ⟨z, hz, k⟩)
  | tup h r => exact .inl (ops_in N H e v _ x _ rx (.tup h r) Q ⟨z, hz, k⟩)
  | lst h r => exact .inl (ops_in N H e v _ x _ rx (.lst h r) Q ⟨z, hz, k⟩)
  | dcT h r => exact .inl (ops_in N H e v _ x _ rx (.dcT h r) Q ⟨z, hz, k⟩)
  | ob h r => exact .inl (ops_in N H e v _ x _ rx (.ob h r) Q ⟨z, hz, k⟩)
theorem ops_notInW : OpS K (rNotInW K) vNotIn := by
  intro N H e v w x y rx ry Q ⟨z, hz, k⟩
  cases ry with
  | @dct a kvs ys h r =>
    have hz : rNot (vInD x ys) = .ok z := hz
    unfold vInD at hz
    cases hk : keyOfV x with
    | none => rw [hk] at hz; cases hz
    | some q =>
      rw [hk] at hz
      cases hz
      refine .inr ⟨a, valV kvs q, rfl, ?_, ?_⟩
      · rw [keyOf_rv rx hk]; exact (h.mono e).get
      · rw [r.some]; exact k N H (Gr.refl e) _ (.bl _)
  | @dck a od kvs ys h0 r =>
    have hz : rNot (vInD x ys) = .ok z := hz
    unfold vInD at hz
    cases hk : keyOfV x with
    | none => rw [hk] at hz; cases hz
    | some q =>
      rw [hk] at hz
      cases hz
      refine .inr ⟨a, valV kvs q, rfl, ?_, ?_⟩
      · rw [keyOf_rv rx hk]; exact (SqD.mono e (.inr ⟨_, h0⟩)).get
      · rw [r.some]; exact k N H (Gr.refl e) _ (.bl _)
  | non => exact .inl (ops_notIn N H e v _ x .non rx .non Q ⟨z, hz, k⟩)
  | bl b => exact .inl (ops_notIn N H e v _ x (.bl b) rx (.bl b) Q ⟨z, hz, k⟩)
  | int i => exact .inl (ops_notIn N H e v _ x (.int i) rx (.int i) Q ⟨z, hz, k⟩)
  | str s => exact .inl (ops_notIn N H e v _ x (.str s) rx (.str s) Q ⟨z, hz, k⟩)
  | tup h r => exact .inl (ops_notIn N H e v _ x _ rx (.tup h r) Q ⟨z, hz, k⟩)
  | lst h r => exact .inl (ops_notIn N H e v _ x _ rx (.lst h r) Q ⟨z, hz, k⟩)
  | dcT h r => exact .inl (ops_notIn N H e v _ x _ rx (.dcT h r) Q ⟨z, hz, k⟩)
  | ob h r => exact .inl (ops_notIn N H e v _ x _ rx (.ob h r) Q ⟨z, hz, k⟩)
end
section
variable {K : PySem.W.Frag} {C : Cn}
theorem nx_getD (kvs : List (Key × Val)) (k z : Val) : NX (getD kvs k z) := by unfold getD; split <;> first | exact nx_ok | exact nx_bad
theorem getD_ok {N : Hp} {vs : List (L2.Key × V)} {xs : List (Key × Val)} {k z y : Val} {w vz : V} (r : RKs K N vs xs) (rk : RV K N w k) (rz : RV K N vz z) (h : getD xs k z = .ok y) : ∃ q, w = kV q ∧ RV K N ((valV vs q).getD vz) y := by
  unfold getD at h
  cases hk : keyOfV k with
  | none => rw [hk] at h; cases h
  | some q =>
    rw [hk] at h
    cases h
    refine ⟨q, keyOf_rv rk hk, ?_⟩
    have g := r.get (k := q)
    cases hg : getV xs q with
    | none => rw [hg] at g; rw [show valV vs q = none from g]; exact rz
    | some x =>
      rw [hg] at g
      obtain ⟨u, h1, h2⟩ := g
      rw [h1]
      exact h2
theorem ev_get2 {ta tb tc : TE} {ma mb mc : EX} (ha : EvE K C ta ma) (hb : EvE K C tb mb) (hc : EvE K C tc mc) : EvE K C (tDGet2 ta tb tc) (eGet2 ma mb mc) := fun N H σ env e s Q h => by
  refine ha N H σ env e s _ (PostR.imp (PostR.bind h) fun x N1 H1 g1 h1 v rv => ?_)
  cases rv with
  | @dct a kvs ys hd r =>
    refine ⟨a, rfl, .inl ⟨kvs, hd.mono g1.nh⟩, ?_⟩
    refine hb N1 H1 σ env g1.nh (s.mono g1.nn) _ (PostR.imp (PostR.bind h1) fun y N2 H2 g2 h2 w rw' => ?_)
    refine hc N2 H2 σ env g2.nh ((s.mono g1.nn).mono g2.nn) _ (PostR.imp (PostR.bind h2) fun u N3 H3 g3 h3 vu ru => ?_)
    obtain ⟨z, hz, kk⟩ := h3.val (nx_getD _ _ _)
    obtain ⟨q, rfl, hv⟩ := getD_ok (RKs.mono g3.nn _ (RKs.mono g2.nn _ r)) (rw'.mono g3.nn) ru hz
    exact ⟨valV kvs q, (((hd.mono g2.nn).mono g3.nn).mono g3.nh).get, kk N3 H3 (Gr.refl g3.nh) _ hv⟩
  | @dck a od kvs ys hd0 r =>
    have hd : SqD N1 a kvs := .inr ⟨od, hd0⟩
    refine ⟨a, rfl, .inl ⟨kvs, hd.mono g1.nh⟩, ?_⟩
    refine hb N1 H1 σ env g1.nh (s.mono g1.nn) _ (PostR.imp (PostR.bind h1) fun y N2 H2 g2 h2 w rw' => ?_)
    refine hc N2 H2 σ env g2.nh ((s.mono g1.nn).mono g2.nn) _ (PostR.imp (PostR.bind h2) fun u N3 H3 g3 h3 vu ru => ?_)
    obtain ⟨z, hz, kk⟩ := h3.val (nx_getD _ _ _)
    obtain ⟨q, rfl, hv⟩ := getD_ok (RKs.mono g3.nn _ (RKs.mono g2.nn _ r)) (rw'.mono g3.nn) ru hz
    exact ⟨valV kvs q, (((hd.mono g2.nn).mono g3.nn).mono g3.nh).get, kk N3 H3 (Gr.refl g3.nh) _ hv⟩
  | _ => exact h1.elim
theorem indexOf_ok {x : Val} : ∀ {xs : List Val} {j : Nat}, indexOf x xs = some j → (∃ z, xs[j]? = some z ∧ eqv z x = true) ∧ ∀ m z, m < j → xs[m]? = some z → eqv z x = false
  | [], j, h => by cases h
  | y :: ys, j, h => by
    unfold indexOf at h
    cases hq : eqv y x with
    | true =>
      rw [hq] at h
      cases h
      exact ⟨⟨y, rfl, hq⟩, fun m z hm => by omega⟩
    | false =>
      rw [hq] at h
      have h : (indexOf x ys).map (· + 1) = some j := h
      cases hi : indexOf x ys with
      | none => rw [hi] at h; cases h
      | some i =>
        rw [hi] at h
        cases h
        obtain ⟨⟨z, h1, h2⟩, h3⟩ := indexOf_ok hi
        refine ⟨⟨z, by simpa using h1, h2⟩, fun m z hm hz => ?_⟩
        cases m with
        | zero => simp at hz; subst hz; exact hq
        | succ m => exact h3 m z (by have hm : m + 1 < i + 1 := hm; omega) (by simpa using hz)
theorem nx_index (xs : List Val) (x : Val) : NX (vIndex xs x) := by
  unfold vIndex
  refine nx_ite ?_ nx_bad
  split <;> first | exact nx_ok | exact nx_bad
theorem ev_index {ta tb : TE} {ma mb : EX} (ha : EvE K C ta ma) (hb : EvE K C tb mb) : EvE K C (tBM K "list" (rIndex K) ta (tCons tb tNil)) (eIndex ma mb) := fun N H σ env e s Q h => by
  refine ha N H σ env e s _ (PostR.imp (PostR.bind h) fun x N1 H1 g1 h1 v rv => ?_)
  cases rv with
  | @lst a vs xs hs r =>
    refine ⟨.inl ⟨rfl, vs, sq_mono g1.nh hs⟩, ?_⟩
    refine hb N1 H1 σ env g1.nh (s.mono g1.nn) _ (PostR.imp (PostR.bind h1) fun y N2 H2 g2 h2 w rw' => ?_)
    obtain ⟨z, hz, kk⟩ := h2.val (nx_index _ _)
    unfold vIndex at hz
    split at hz
    · rename_i hf
      rw [Bool.and_eq_true] at hf
      cases hi : indexOf y xs with
      | none => rw [hi] at hz; cases hz
      | some j =>
        rw [hi] at hz
        cases hz
        obtain ⟨⟨z, h3, h4⟩, h5⟩ := indexOf_ok hi
        obtain ⟨f1, f2⟩ := rw'.flat hf.1
        obtain ⟨f3, f4⟩ := r.flats hf.2
        have fl : ∀ {m : Nat} {z : Val}, xs[m]? = some z → z.isFlat = true := fun q => List.all_eq_true.mp hf.2 _ (List.mem_of_getElem? q)
        refine ⟨a, vs, w, j, toV z, rfl, rfl, sq_mono g2.nh (sq_mono g2.nn hs), f2, f4, by rw [f3, List.getElem?_map, h3]; rfl, ?_, fun m z' hm hz' => ?_, kk N2 H2 (Gr.refl g2.nh) _ (.int _)⟩
        · rw [f1, eqV_of (fl h3) hf.1]; exact h4
        · rw [f3, List.getElem?_map] at hz'
          cases hq : xs[m]? with
          | none => rw [hq] at hz'; cases hz'
          | some q =>
            rw [hq] at hz'
            cases hz'
            rw [f1, eqV_of (fl hq) hf.1]
            exact h5 m q hm hq
    · cases hz
  | _ => exact h1.elim
end
end Vm
namespace Vm
open PySem L2 PyProof.Rows
variable [TabsOf]
mutual
inductive RT (K : PySem.W.Frag) (M H : Hp) : V → Tr → List Addr → Prop
  | v {v : V} {x : Val} : RV K M v x → RT K M H v (.v x) []
  | l {a : Addr} {vs : List V} {ts : List Tr} {f : List Addr} : H a = some (.lst vs) → RTl K M H vs ts f → RT K M H (.ref a) (.l ts) (a :: f)
  | d {a : Addr} {vs : List (L2.Key × V)} {ts : List (Key × Tr)} {f : List Addr} : H a = some (.dK vs) → RTd K M H vs ts f → RT K M H (.ref a) (.d ts) (a :: f)
  | dT {a : Addr} {vs : List (List L2.Key × V)} {ts : List (List Key × Tr)} {f : List Addr} : H a = some (.dT vs) → RTt K M H vs ts f → RT K M H (.ref a) (.dT ts) (a :: f)
  | o {a dx : Addr} {c : Str} {vs : List (Str × V)} {ts : List (Str × Tr)} {f : List Addr} : H a = some (.ins (He.ga K c) dx vs) → H dx = some (.own a) → RTo K M H vs ts f → RT K M H (.ref a) (.o c ts) (a :: dx :: f)
inductive RTl (K : PySem.W.Frag) (M H : Hp) : List V → List Tr → List Addr → Prop
  | nil : RTl K M H [] [] []
  | cons {v : V} {vs : List V} {t : Tr} {ts : List Tr} {f fs : List Addr} : RT K M H v t f → RTl K M H vs ts fs → RTl K M H (v :: vs) (t :: ts) (f ++ fs)
inductive RTd (K : PySem.W.Frag) (M H : Hp) : List (L2.Key × V) → List (Key × Tr) → List Addr → Prop
  | nil : RTd K M H [] [] []
  | cons {k : Key} {v : V} {vs : List (L2.Key × V)} {t : Tr} {ts : List (Key × Tr)} {f fs : List Addr} : RT K M H v t f → RTd K M H vs ts fs → RTd K M H ((k, v) :: vs) ((k, t) :: ts) (f ++ fs)
inductive RTt (K : PySem.W.Frag) (M H : Hp) : List (List L2.Key × V) → List (List Key × Tr) → List Addr → Prop
  | nil : RTt K M H [] [] []
  | cons {k : List Key} {v : V} {vs : List (List L2.Key × V)} {t : Tr} {ts : List (List Key × Tr)} {f fs : List Addr} : RT K M H v t f → RTt K M H vs ts fs → RTt K M H ((k, v) :: vs) ((k, t) :: ts) (f ++ fs)
inductive RTo (K : PySem.W.Frag) (M H : Hp) : List (Str × V) → List (Str × Tr) → List Addr → Prop
  | nil : RTo K M H [] [] []
  | cons {k : Str} {v : V} {vs : List (Str × V)} {t : Tr} {ts : List (Str × Tr)} {f fs : List Addr} : RT K M H v t f → RTo K M H vs ts fs → RTo K M H ((k, v) :: vs) ((k, t) :: ts) (f ++ fs)
end
/-- what a slot may own -/
def OwnO : HO → Prop
  | .lst _ => True
  | .dK _ => True
  | .dT _ => True
  | .ins _ _ _ => True
  | .own _ => True
  | _ => False
section
variable {K : PySem.W.Frag} {M H M' H' : Hp}
mutual
theorem RT.mono (em : Sub M M') : ∀ (t : Tr) {v : V} {f : List Addr}, (∀ a ∈ f, H' a = H a) → RT K M H v t f → RT K M' H' v t f
  | .v x, _, _, _, .v r => .v (r.mono em)
  | .l ts, _, _, eh, .l h r => .l (by rw [eh _ List.mem_cons_self]; exact h) (RTl.mono em ts (fun a ha => eh a (List.mem_cons_of_mem _ ha)) r)
  | .d ts, _, _, eh, .d h r => .d (by rw [eh _ List.mem_cons_self]; exact h) (RTd.mono em ts (fun a ha => eh a (List.mem_cons_of_mem _ ha)) r)
  | .dT ts, _, _, eh, .dT h r => .dT (by rw [eh _ List.mem_cons_self]; exact h) (RTt.mono em ts (fun a ha => eh a (List.mem_cons_of_mem _ ha)) r)
  | .o c ts, _, _, eh, .o h h' r => .o (by rw [eh _ List.mem_cons_self]; exact h) (by rw [eh _ (List.mem_cons_of_mem _ List.mem_cons_self)]; exact h') (RTo.mono em ts (fun a ha => eh a (List.mem_cons_of_mem _ (List.mem_cons_of_mem _ ha))) r)
theorem RTl.mono (em : Sub M M') : ∀ (ts : List Tr) {vs : List V} {f : List Addr}, (∀ a ∈ f, H' a = H a) → RTl K M H vs ts f → RTl K M' H' vs ts f
  | [], _, _, _, .nil => .nil
  | t :: ts, _, _, eh, .cons r r' => .cons (RT.mono em t (fun a ha => eh a (List.mem_append_left _ ha)) r) (RTl.mono em ts (fun a ha => eh a (List.mem_append_right _ ha)) r')
theorem RTd.mono (em : Sub M M') : ∀ (ts : List (Key × Tr)) {vs : List (L2.Key × V)} {f : List Addr}, (∀ a ∈ f, H' a = H a) → RTd K M H vs ts f → RTd K M' H' vs ts f
  | [], _, _, _, .nil => .nil
  | (_, t) :: ts, _, _, eh, .cons r r' => .cons (RT.mono em t (fun a ha => eh a (List.mem_append_left _ ha)) r) (RTd.mono em ts (fun a ha => eh a (List.mem_append_right _ ha)) r')
theorem RTt.mono (em : Sub M M') : ∀ (ts : List (List Key × Tr)) {vs : List (List L2.Key × V)} {f : List Addr}, (∀ a ∈ f, H' a = H a) → RTt K M H vs ts f → RTt K M' H' vs ts f
  | [], _, _, _, .nil => .nil
  | (_, t) :: ts, _, _, eh, .cons r r' => .cons (RT.mono em t (fun a ha => eh a (List.mem_append_left _ ha)) r) (RTt.mono em ts (fun a ha => eh a (List.mem_append_right _ ha)) r')
theorem RTo.mono (em : Sub M M') : ∀ (ts : List (Str × Tr)) {vs : List (Str × V)} {f : List Addr}, (∀ a ∈ f, H' a = H a) → RTo K M H vs ts f → RTo K M' H' vs ts f
  | [], _, _, _, .nil => .nil
  | (_, t) :: ts, _, _, eh, .cons r r' => .cons (RT.mono em t (fun a ha => eh a (List.mem_append_left _ ha)) r) (RTo.mono em ts (fun a ha => eh a (List.mem_append_right _ ha)) r')
end
mutual
theorem RT.kinds : ∀ (t : Tr) {v : V} {f : List Addr}, RT K M H v t f → ∀ a ∈ f, ∃ o, H a = some o ∧ OwnO o
  | .v x, _, _, .v r, a, ha => by cases ha
  | .l ts, _, _, .l h r, a, ha => by
    rcases List.mem_cons.mp ha with rfl | ha
    · exact ⟨_, h, trivial⟩
    · exact RTl.kinds ts r a ha
  | .d ts, _, _, .d h r, a, ha => by
    rcases List.mem_cons.mp ha with rfl | ha
    · exact ⟨_, h, trivial⟩
    · exact RTd.kinds ts r a ha
  | .dT ts, _, _, .dT h r, a, ha => by
    rcases List.mem_cons.mp ha with rfl | ha
    · exact ⟨_, h, trivial⟩
    · exact RTt.kinds ts r a ha
  | .o c ts, _, _, .o h h' r, a, ha => by
    rcases List.mem_cons.mp ha with rfl | ha
    · exact ⟨_, h, trivial⟩
    · rcases List.mem_cons.mp ha with rfl | ha
      · exact ⟨_, h', trivial⟩
      · exact RTo.kinds ts r a ha
theorem RTl.kinds : ∀ (ts : List Tr) {vs : List V} {f : List Addr}, RTl K M H vs ts f → ∀ a ∈ f, ∃ o, H a = some o ∧ OwnO o
  | [], _, _, .nil, a, ha => by cases ha
  | t :: ts, _, _, .cons r r', a, ha => by
    rcases List.mem_append.mp ha with ha | ha
    · exact RT.kinds t r a ha
    · exact RTl.kinds ts r' a ha
theorem RTd.kinds : ∀ (ts : List (Key × Tr)) {vs : List (L2.Key × V)} {f : List Addr}, RTd K M H vs ts f → ∀ a ∈ f, ∃ o, H a = some o ∧ OwnO o
  | [], _, _, .nil, a, ha => by cases ha
  | (_, t) :: ts, _, _, .cons r r', a, ha => by
    rcases List.mem_append.mp ha with ha | ha
    · exact RT.kinds t r a ha
    · exact RTd.kinds ts r' a ha
theorem RTt.kinds : ∀ (ts : List (List Key × Tr)) {vs : List (List L2.Key × V)} {f : List Addr}, RTt K M H vs ts f → ∀ a ∈ f, ∃ o, H a = some o ∧ OwnO o
  | [], _, _, .nil, a, ha => by cases ha
  | (_, t) :: ts, _, _, .cons r r', a, ha => by
    rcases List.mem_append.mp ha with ha | ha
    · exact RT.kinds t r a ha
    · exact RTt.kinds ts r' a ha
theorem RTo.kinds : ∀ (ts : List (Str × Tr)) {vs : List (Str × V)} {f : List Addr}, RTo K M H vs ts f → ∀ a ∈ f, ∃ o, H a = some o ∧ OwnO o
  | [], _, _, .nil, a, ha => by cases ha
  | (_, t) :: ts, _, _, .cons r r', a, ha => by
    rcases List.mem_append.mp ha with ha | ha
    · exact RT.kinds t r a ha
    · exact RTo.kinds ts r' a ha
end
mutual
theorem RT.rv {N : Hp} (e : Sub M N) : ∀ (t : Tr) {v : V} {f : List Addr}, (∀ a ∈ f, N a = H a) → RT K M H v t f → RV K N v t.val
  | .v x, _, _, _, .v r => r.mono e
  | .l ts, _, _, en, .l h r => .lst (SqL.of (by rw [en _ List.mem_cons_self]; exact h)) (RTl.rv e ts (fun a ha => en a (List.mem_cons_of_mem _ ha)) r)
  | .d ts, _, _, en, .d h r => .dct (.inl (show N _ = _ by rw [en _ List.mem_cons_self]; exact h)) (RTd.rv e ts (fun a ha => en a (List.mem_cons_of_mem _ ha)) r)
  | .dT ts, _, _, en, .dT h r => .dcT (by rw [en _ List.mem_cons_self]; exact h) (RTt.rv e ts (fun a ha => en a (List.mem_cons_of_mem _ ha)) r)
  | .o c ts, _, _, en, .o h h' r => .ob (by rw [en _ List.mem_cons_self]; exact h) (RTo.rv e ts (fun a ha => en a (List.mem_cons_of_mem _ (List.mem_cons_of_mem _ ha))) r)
theorem RTl.rv {N : Hp} (e : Sub M N) : ∀ (ts : List Tr) {vs : List V} {f : List Addr}, (∀ a ∈ f, N a = H a) → RTl K M H vs ts f → RVs K N vs (Tr.vals ts)
  | [], _, _, _, .nil => .nil
  | t :: ts, _, _, en, .cons r r' => .cons (RT.rv e t (fun a ha => en a (List.mem_append_left _ ha)) r) (RTl.rv e ts (fun a ha => en a (List.mem_append_right _ ha)) r')
theorem RTd.rv {N : Hp} (e : Sub M N) : ∀ (ts : List (Key × Tr)) {vs : List (L2.Key × V)} {f : List Addr}, (∀ a ∈ f, N a = H a) → RTd K M H vs ts f → RKs K N vs (Tr.valsD ts)
  | [], _, _, _, .nil => .nil
  | (_, t) :: ts, _, _, en, .cons r r' => .cons (RT.rv e t (fun a ha => en a (List.mem_append_left _ ha)) r) (RTd.rv e ts (fun a ha => en a (List.mem_append_right _ ha)) r')
theorem RTt.rv {N : Hp} (e : Sub M N) : ∀ (ts : List (List Key × Tr)) {vs : List (List L2.Key × V)} {f : List Addr}, (∀ a ∈ f, N a = H a) → RTt K M H vs ts f → RTs K N vs (Tr.valsT ts)
  | [], _, _, _, .nil => .nil
  | (_, t) :: ts, _, _, en, .cons r r' => .cons (RT.rv e t (fun a ha => en a (List.mem_append_left _ ha)) r) (RTt.rv e ts (fun a ha => en a (List.mem_append_right _ ha)) r')
theorem RTo.rv {N : Hp} (e : Sub M N) : ∀ (ts : List (Str × Tr)) {vs : List (Str × V)} {f : List Addr}, (∀ a ∈ f, N a = H a) → RTo K M H vs ts f → RFs K N vs (Tr.valsO ts)
  | [], _, _, _, .nil => .nil
  | (_, t) :: ts, _, _, en, .cons r r' => .cons (RT.rv e t (fun a ha => en a (List.mem_append_left _ ha)) r) (RTo.rv e ts (fun a ha => en a (List.mem_append_right _ ha)) r')
end
end
/-- one slot, with the addresses of its own -/
inductive SlR1 (K : PySem.W.Frag) (me : V) (M H : Hp) : Option V → Slot → List Addr → Prop
  | un (s : Option V) : SlR1 K me M H s .un []
  | sh {v : V} {x : Val} : RV K M v x → SlR1 K me M H (some v) (.sh x) []
  | oL {a : Addr} {vs : List V} {xs : List Val} : H a = some (.lst vs) → RVs K M vs xs → SlR1 K me M H (some (.ref a)) (.oL xs) [a]
  | oD {a : Addr} {vs : List (L2.Key × V)} {xs : List (Key × Val)} : H a = some (.dK vs) → RKs K M vs xs → SlR1 K me M H (some (.ref a)) (.oD xs) [a]
  | oT {v : V} {t : Tr} {f : List Addr} : RT K M H v t f → SlR1 K me M H (some v) (.oT t) f
  | me {t : Tr} {f : List Addr} : RT K M H me t f → SlR1 K me M H (some me) (.me t) f
inductive SO (K : PySem.W.Frag) (me : V) (M H : Hp) : L2.St → Env → List Addr → Prop
  | nil : SO K me M H [] [] []
  | cons {s : Option V} {e : Slot} {f fs : List Addr} {σ : L2.St} {env : Env} : SlR1 K me M H s e f → SO K me M H σ env fs → SO K me M H (s :: σ) (e :: env) (f ++ fs)
section
variable {K : PySem.W.Frag} {me : V} {M H M' H' : Hp} {σ : L2.St} {env : Env} {fs : List Addr}
theorem SlR1.mono {s : Option V} {e : Slot} {f : List Addr} (em : Sub M M') (eh : ∀ a ∈ f, H' a = H a) (h : SlR1 K me M H s e f) : SlR1 K me M' H' s e f := by
  cases h with
  | un => exact .un _
  | sh r => exact .sh (r.mono em)
  | oL h r => exact .oL (by rw [eh _ List.mem_cons_self]; exact h) (r.mono em)
  | oD h r => exact .oD (by rw [eh _ List.mem_cons_self]; exact h) (r.mono em)
  | oT r => exact .oT (RT.mono em _ eh r)
  | me r => exact .me (RT.mono em _ eh r)
theorem SO.mono (em : Sub M M') (eh : ∀ a ∈ fs, H' a = H a) (h : SO K me M H σ env fs) : SO K me M' H' σ env fs := by
  induction h with
  | nil => exact .nil
  | cons r _ ih => exact .cons (r.mono em fun a ha => eh a (List.mem_append_left _ ha)) (ih fun a ha => eh a (List.mem_append_right _ ha))
theorem SO.known (h : SO K me M H σ env fs) : ∀ a ∈ fs, H a ≠ none := by
  induction h with
  | nil => intro a ha; cases ha
  | cons r _ ih =>
    intro a ha
    rcases List.mem_append.mp ha with ha | ha
    · cases r with
      | un => cases ha
      | sh => cases ha
      | oL h _ => rw [List.mem_singleton] at ha; subst ha; rw [h]; simp
      | oD h _ => rw [List.mem_singleton] at ha; subst ha; rw [h]; simp
      | oT r =>
        obtain ⟨o, h, _⟩ := RT.kinds _ r a ha
        rw [h]; simp
      | me r =>
        obtain ⟨o, h, _⟩ := RT.kinds _ r a ha
        rw [h]; simp
    · exact ih a ha
theorem SO.len (h : SO K me M H σ env fs) : σ.length = env.length := by
  induction h with
  | nil => rfl
  | cons _ _ ih => exact congrArg (· + 1) ih
/-- the i-th slot apart -/
theorem SO.at (h : SO K me M H σ env fs) : ∀ {i : Nat} {e : Slot}, env[i]? = some e → ∃ s f1 f f2, σ[i]? = some s ∧ fs = f1 ++ (f ++ f2) ∧ SlR1 K me M H s e f ∧
    ∀ {M' H' : Hp} {s' : Option V} {e' : Slot} {f' : List Addr}, Sub M M' → (∀ a ∈ f1 ++ f2, H' a = H a) → SlR1 K me M' H' s' e' f' → SO K me M' H' (σ.set i s') (env.set i e') (f1 ++ (f' ++ f2)) := by
  induction h with
  | nil => intro i e h; simp at h
  | @cons s e f fs σ env r t ih =>
    intro i e0 h
    cases i with
    | zero =>
      simp at h
      subst h
      refine ⟨s, [], f, fs, rfl, rfl, r, @fun M' H' s' e' f' em eh r' => ?_⟩
      show SO K me M' H' (s' :: σ) (e' :: env) (f' ++ fs)
      exact SO.cons r' (t.mono em fun a ha => eh a (by simpa using ha))
    | succ i =>
      obtain ⟨s0, f1, g, f2, h1, h2, h3, h4⟩ := ih (i := i) (e := e0) (by simpa using h)
      refine ⟨s0, f ++ f1, g, f2, by simpa using h1, by rw [h2, List.append_assoc], h3, fun em eh r' => ?_⟩
      have := h4 em (fun a ha => eh a (by simp only [List.mem_append] at ha ⊢; rcases ha with ha | ha <;> simp [ha])) r'
      rw [List.append_assoc]
      exact .cons (r.mono em fun a ha => eh a (by simp [ha])) this
end
section
variable {K : PySem.W.Frag} {M H : Hp} {σ : L2.St} {env : Env} {fs : List Addr}
theorem SO.kinds {me : V} (h : SO K me M H σ env fs) : ∀ a ∈ fs, ∃ o, H a = some o ∧ OwnO o := by
  induction h with
  | nil => intro a ha; cases ha
  | cons r _ ih =>
    intro a ha
    rcases List.mem_append.mp ha with ha | ha
    · cases r with
      | un => cases ha
      | sh => cases ha
      | oL h _ => rw [List.mem_singleton] at ha; subst ha; exact ⟨_, h, trivial⟩
      | oD h _ => rw [List.mem_singleton] at ha; subst ha; exact ⟨_, h, trivial⟩
      | oT r => exact RT.kinds _ r a ha
      | me r => exact RT.kinds _ r a ha
    · exact ih a ha
end
theorem own_ntb {o : HO} (h : OwnO o) : ntb o = true := by cases o <;> first | rfl | exact h.elim
theorem own_wr {o : HO} (h : OwnO o) : Wr o = true := by cases o <;> first | rfl | exact h.elim
structure Bs where
  m : Hp
  h : Hp
  l : Hp
  me : V := .non
structure SR (K : PySem.W.Frag) (B : Bs) (M H : Hp) (σ : L2.St) (env : Env) (fs : List Addr) : Prop where
  g : Gr B.m B.h M H
  lo : Sub B.l M
  fr : ∀ a ∈ fs, M a = none ∧ B.h a = none
  nd : fs.Nodup
  sl : SO K B.me M H σ env fs
theorem SR.at_low {K : PySem.W.Frag} {B : Bs} {M M1 H : Hp} {σ : L2.St} {env : Env} {fs : List Addr} (S : SR K B M H σ env fs) (e : Sub M1 M) : SR K { B with l := M1 } M H σ env fs := ⟨S.g, e, S.fr, S.nd, S.sl⟩
theorem SR.of_low {K : PySem.W.Frag} {B : Bs} {M M1 H : Hp} {σ : L2.St} {env : Env} {fs : List Addr} (e : Sub B.l M1) (S : SR K { B with l := M1 } M H σ env fs) : SR K B M H σ env fs := ⟨S.g, e.trans S.lo, S.fr, S.nd, S.sl⟩
/-- all that stands, the slots' own lists too -/
def full (M H : Hp) (fs : List Addr) : Hp := fun a => if a ∈ fs then H a else M a
/-- what stays, where the slots' own lists are left out -/
def part (N : Hp) (fs : List Addr) : Hp := fun a => if a ∈ fs then none else N a
section
variable {K : PySem.W.Frag} {B : Bs} {M H M' H' N' : Hp} {σ : L2.St} {env : Env} {fs : List Addr}
theorem full_sub (S : SR K B M H σ env fs) : Inn (full M H fs) H := S.g.nh.part fun a o q => by
  unfold full at q
  split at q
  · rename_i ha
    obtain ⟨o', h, h'⟩ := S.sl.kinds a ha
    rw [q] at h
    cases h
    exact ⟨q, .inr (own_ntb h')⟩
  · exact ⟨S.g.nh a o q, .inl q⟩
theorem Inn.cut {N H : Hp} (e : Inn N H) (fs : List Addr) : Inn (Vm.part N fs) H := e.part fun a o q => by
  unfold Vm.part at q
  split at q
  · cases q
  · exact ⟨e a o q, .inl q⟩
theorem sub_full (S : SR K B M H σ env fs) : Sub M (full M H fs) := fun a o q => by
  unfold full
  rw [if_neg fun h => by rw [(S.fr a h).1] at q; cases q]
  exact q
theorem full_gr (S : SR K B M H σ env fs) : Gr B.m B.h (full M H fs) H := by
  refine ⟨S.g.hh, fun a o q => sub_full S a o (S.g.nn a o q), full_sub S, fun a q => ?_⟩
  unfold full at q
  split at q
  · rename_i h; exact .inr (S.fr a h).2
  · exact S.g.nw a q
theorem SO.sv {me : V} {N : Hp} (e : Sub M N) (en : ∀ a ∈ fs, N a = H a) (h : SO K me M H σ env fs) : SV K N σ env := by
  induction h with
  | nil => exact .nil
  | @cons s e' f fs σ env r _ ih =>
    have ih' := ih fun a ha => en a (List.mem_append_right _ ha)
    cases r with
    | un => exact .un ih'
    | sh r => exact .sh (r.mono e) ih'
    | oL h r => exact .oL (.lst (SqL.of (by rw [en _ (by simp)]; exact h)) (r.mono e)) ih'
    | oD h r => exact .oD (.dct (.inl (show N _ = _ by rw [en _ (by simp)]; exact h)) (r.mono e)) ih'
    | oT r => exact .oT (RT.rv e _ (fun a ha => en a (List.mem_append_left _ ha)) r) ih'
    | me r => exact .me (RT.rv e _ (fun a ha => en a (List.mem_append_left _ ha)) r) ih'
theorem SR.sv (S : SR K B M H σ env fs) : SV K (full M H fs) σ env := S.sl.sv (sub_full S) fun a ha => if_pos ha
theorem SO.hid {me : V} (h : SO K me M H σ env fs) : SV K M σ (hide env) := by
  induction h with
  | nil => exact .nil
  | cons r _ ih =>
    cases r with
    | un => exact .un ih
    | sh r => exact .sh r ih
    | oL _ _ => exact .un ih
    | oD _ _ => exact .un ih
    | oT _ => exact .un ih
    | me _ => exact .un ih
/-- behind an expression over all that stands -/
theorem SR.behind (S : SR K B M H σ env fs) (g : Gr (full M H fs) H N' H') : SR K B (part N' fs) H' σ env fs := by
  have em : Sub M (part N' fs) := fun a o q => by
    unfold part
    rw [if_neg fun h => by rw [(S.fr a h).1] at q; cases q]
    exact g.nn a o (sub_full S a o q)
  refine ⟨⟨S.g.hh.trans g.hh, fun a o q => em a o (S.g.nn a o q), g.nh.cut fs, fun a q => ?_⟩, S.lo.trans em, fun a ha => ⟨if_pos ha, (S.fr a ha).2⟩, S.nd, S.sl.mono em fun a ha => ?_⟩
  · unfold part at q
    split at q
    · exact absurd rfl q
    · rename_i ha
      rcases g.nw a q with h | h
      · unfold full at h
        rw [if_neg ha] at h
        exact S.g.nw a h
      · exact .inr (S.g.hh.free h)
  · obtain ⟨o, hq, ho⟩ := S.sl.kinds a ha
    rw [hq]
    exact g.hh.to a o hq (own_ntb ho)
/-- behind an expression over what stays -/
theorem SR.behindH (S : SR K B M H σ env fs) (g : Gr M H M' H') : SR K B M' H' σ env fs := by
  refine ⟨S.g.trans g, S.lo.trans g.nn, fun a ha => ⟨?_, (S.fr a ha).2⟩, S.nd, S.sl.mono g.nn fun a ha => ?_⟩
  · cases hq : M' a with
    | none => rfl
    | some o =>
      rcases g.nw a (by rw [hq]; simp) with h | h
      · exact absurd (S.fr a ha).1 h
      · exact absurd h (S.sl.known a ha)
  · obtain ⟨o, hq, ho⟩ := S.sl.kinds a ha
    rw [hq]
    exact g.hh.to a o hq (own_ntb ho)
mutual
theorem RV.strip {N : Hp} (hn : ∀ a ∈ fs, ∃ o, N a = some o ∧ OwnO o) : ∀ (x : Val) {v : V}, RV K N v x → x.noLst = true → RV K (part N fs) v x
  | .non, _, .non, _ => .non
  | .bl _, _, .bl b, _ => .bl b
  | .int _, _, .int i, _ => .int i
  | .str _, _, .str x, _ => .str x
  | .tup xs, _, .tup (a := a) (vs := vs) h r, e => by
    have hx := RVs.strip hn xs r e
    refine .tup ?_ hx
    rcases h with h | h
    · refine .inl ?_
      unfold part
      rw [if_neg fun ha => by
        obtain ⟨o', q, q'⟩ := hn a ha
        rw [h] at q
        cases q
        exact q']
      exact h
    · exact .inr h
  | .lst _, _, _, e => by simp [Val.noLst] at e
  | .dct _, _, _, e => by simp [Val.noLst] at e
  | .dcT _, _, _, e => by simp [Val.noLst] at e
  | .dck xs, _, .dck (a := a) (od := od) (kvs := vs) h r, e => by
    refine .dck (od := od) ?_ (RKs.strip hn xs r e)
    unfold part
    rw [if_neg fun ha => by
      obtain ⟨o', q, q'⟩ := hn a ha
      rw [h] at q
      cases q
      exact q']
    exact h
  | .ob _ _, _, _, e => by simp [Val.noLst] at e
theorem RVs.strip {N : Hp} (hn : ∀ a ∈ fs, ∃ o, N a = some o ∧ OwnO o) : ∀ (xs : List Val) {vs : List V}, RVs K N vs xs → Val.noLsts xs = true → RVs K (part N fs) vs xs
  | [], _, .nil, _ => .nil
  | x :: xs, _, .cons h r, e => by
    simp only [Val.noLsts, Bool.and_eq_true] at e
    exact .cons (RV.strip hn x h e.1) (RVs.strip hn xs r e.2)
theorem RKs.strip {N : Hp} (hn : ∀ a ∈ fs, ∃ o, N a = some o ∧ OwnO o) : ∀ (xs : List (Key × Val)) {vs : List (L2.Key × V)}, RKs K N vs xs → Val.noLstK xs = true → RKs K (part N fs) vs xs
  | [], _, .nil, _ => .nil
  | (_, x) :: xs, _, .cons h r, e => by
    simp only [Val.noLstK, Bool.and_eq_true] at e
    exact .cons (RV.strip hn x h e.1) (RKs.strip hn xs r e.2)
end
theorem SR.kindsN (S : SR K B M H σ env fs) (g : Gr (full M H fs) H N' H') : ∀ a ∈ fs, ∃ o, N' a = some o ∧ OwnO o := fun a ha => by
  obtain ⟨o, h, h'⟩ := S.sl.kinds a ha
  exact ⟨o, g.nn a _ (by unfold full; rw [if_pos ha]; exact h), h'⟩
theorem nodup_mid {f1 f f' f2 : List Addr} (h : (f1 ++ (f ++ f2)).Nodup) (h1 : f'.Nodup) (h2 : ∀ a ∈ f', a ∉ f1 ++ f2) : (f1 ++ (f' ++ f2)).Nodup := by
  rw [List.nodup_append] at h ⊢
  obtain ⟨a, b, c⟩ := h
  rw [List.nodup_append] at b
  refine ⟨a, List.nodup_append.mpr ⟨h1, b.2.1, fun x hx y hy z => ?_⟩, fun x hx y hy z => ?_⟩
  · subst z; exact h2 x hx (List.mem_append_right _ hy)
  · subst z
    rcases List.mem_append.mp hy with hy | hy
    · exact h2 x hy (List.mem_append_left _ hx)
    · exact c x hx x (List.mem_append_right _ hy) rfl
/-- a slot gets a value that stays (or nothing) -/
theorem SR.put (S : SR K B M H σ env fs) {i : Nat} (hi : i < env.length) {s : Option V} {e : Slot} (r : SlR1 K B.me M H s e []) : ∃ fs', SR K B M H (σ.set i s) (env.set i e) fs' := by
  obtain ⟨s0, f1, f, f2, h1, h2, h3, h4⟩ := S.sl.at (List.getElem?_eq_getElem hi)
  refine ⟨f1 ++ ([] ++ f2), S.g, S.lo, fun a ha => S.fr a ?_, ?_, h4 (Same.refl _) (fun _ _ => rfl) r⟩
  · rw [h2]
    simp only [List.nil_append, List.mem_append] at ha ⊢
    rcases ha with ha | ha <;> simp [ha]
  · exact nodup_mid (by rw [← h2]; exact S.nd) .nil fun a ha => by cases ha
theorem SR.put2 (S : SR K B M H σ env fs) {i : Nat} (hi : i < env.length) {s : Option V} {e : Slot} (r : SlR1 K B.me M H s e []) : ∃ fs', SR K B M H (σ.set i s) (env.set i e) fs' ∧ ∀ a ∈ fs', a ∈ fs := by
  obtain ⟨s0, f1, f, f2, h1, h2, h3, h4⟩ := S.sl.at (List.getElem?_eq_getElem hi)
  refine ⟨f1 ++ ([] ++ f2), ⟨S.g, S.lo, fun a ha => S.fr a ?_, ?_, h4 (Same.refl _) (fun _ _ => rfl) r⟩, fun a ha => ?_⟩
  · rw [h2]
    simp only [List.nil_append, List.mem_append] at ha ⊢
    rcases ha with ha | ha <;> simp [ha]
  · exact nodup_mid (by rw [← h2]; exact S.nd) .nil fun a ha => by cases ha
  · rw [h2]
    simp only [List.nil_append, List.mem_append] at ha ⊢
    rcases ha with ha | ha <;> simp [ha]
theorem SR.putV (S : SR K B M H σ env fs) {i : Nat} {v : V} {x : Val} (r : RV K M v x) : ∃ fs', SR K B M H (σ.set i (some v)) (env.set i (.sh x)) fs' := by
  by_cases hi : i < env.length
  · exact S.put hi (.sh r)
  · rw [List.set_eq_of_length_le (by rw [S.sl.len]; omega), List.set_eq_of_length_le (by omega)]
    exact ⟨fs, S⟩
theorem SR.sets : ∀ {l : List (Nat × V × Val)} {σ : L2.St} {env : Env} {fs : List Addr}, SR K B M H σ env fs → (∀ t ∈ l, RV K M t.2.1 t.2.2) → ∃ fs', SR K B M H (setsS σ l) (setsE env l) fs'
  | [], _, _, fs, S, _ => ⟨fs, S⟩
  | t :: l, σ, env, fs, S, h => by
    obtain ⟨fs', S'⟩ := S.putV (i := t.1) (h t List.mem_cons_self)
    exact SR.sets (l := l) S' fun t' ht => h t' (List.mem_cons_of_mem _ ht)
/-- a slot gets a new list of its own -/
theorem SR.own (S : SR K B M H σ env fs) {i : Nat} (hi : i < env.length) {p : Addr} {vs : List V} {xs : List Val} (hp : H p = none) (r : RVs K M vs xs) : ∃ fs', SR K B M (upd H p (.lst vs)) (σ.set i (some (.ref p))) (env.set i (.oL xs)) fs' := by
  obtain ⟨s0, f1, f, f2, h1, h2, h3, h4⟩ := S.sl.at (List.getElem?_eq_getElem hi)
  have hne : ∀ a, H a ≠ none → a ≠ p := fun a h z => by subst z; exact h hp
  have hM : M p = none := by
    cases hq : M p with
    | none => rfl
    | some o => have := S.g.nh p o hq; rw [hp] at this; cases this
  have hB : B.h p = none := S.g.hh.free hp
  refine ⟨f1 ++ ([p] ++ f2), ⟨S.g.hh.upd hB, S.g.nn, S.g.nh.newH hp, S.g.nw⟩, S.lo, fun a ha => ?_, ?_, h4 (Same.refl _) (fun a ha => upd_ne (hne a (S.sl.known a ?_))) (.oL upd_same r)⟩
  · simp only [List.mem_append, List.mem_singleton] at ha
    rcases ha with ha | ha | ha
    · exact S.fr a (by rw [h2]; simp [ha])
    · subst ha; exact ⟨hM, hB⟩
    · exact S.fr a (by rw [h2]; simp [ha])
  · refine nodup_mid (by rw [← h2]; exact S.nd) (List.nodup_cons.mpr ⟨by simp, .nil⟩) fun a ha hb => ?_
    rw [List.mem_singleton] at ha
    subst ha
    exact S.sl.known a (by rw [h2]; simp only [List.mem_append] at hb ⊢; rcases hb with h | h <;> simp [h]) hp
  · rw [h2]
    simp only [List.mem_append] at ha ⊢
    rcases ha with h | h <;> simp [h]
/-- the slot's own list is written -/
theorem SR.write (S : SR K B M H σ env fs) {i : Nat} {xs : List Val} (hi : env[i]? = some (.oL xs)) : ∃ a vs, σ[i]? = some (some (.ref a)) ∧ H a = some (.lst vs) ∧ RVs K M vs xs ∧
    ∀ {ws : List V} {ys : List Val}, RVs K M ws ys → SR K B M (upd H a (.lst ws)) σ (env.set i (.oL ys)) fs := by
  obtain ⟨s0, f1, f, f2, h1, h2, h3, h4⟩ := S.sl.at hi
  cases h3 with
  | @oL a vs _ ha r =>
    refine ⟨a, vs, h1, ha, r, fun {ws ys} r' => ?_⟩
    have hfs : a ∈ fs := by rw [h2]; simp
    have hne : ∀ b ∈ f1 ++ f2, b ≠ a := fun b hb z => by
      subst z
      have hn := S.nd
      rw [h2, List.nodup_append] at hn
      obtain ⟨_, n2, n3⟩ := hn
      rcases List.mem_append.mp hb with hb | hb
      · exact n3 b hb b (by simp) rfl
      · rw [List.nodup_append] at n2
        exact n2.2.2 b (by simp) b hb rfl
    have hsl := h4 (M' := M) (H' := upd H a (.lst ws)) (Same.refl _) (fun b hb => upd_ne (hne b hb)) (.oL upd_same r')
    have hset : σ.set i (some (.ref a)) = σ := by
      obtain ⟨hl, he⟩ := List.getElem?_eq_some_iff.mp h1
      rw [← he, List.set_getElem_self]
    rw [hset] at hsl
    have hB := (S.fr a hfs).2
    have hM := (S.fr a hfs).1
    exact ⟨⟨S.g.hh.upd hB, S.g.nn, S.g.nh.wr hM ha, S.g.nw⟩, S.lo, S.fr, S.nd, by rw [h2]; exact hsl⟩
/-- the slot's own list stays from here on -/
theorem SR.freeze (S : SR K B M H σ env fs) {i : Nat} {xs : List Val} (hi : env[i]? = some (.oL xs)) : ∃ M' fs', SR K B M' H σ (env.set i (.sh (.lst xs))) fs' := by
  obtain ⟨s0, f1, f, f2, h1, h2, h3, h4⟩ := S.sl.at hi
  cases h3 with
  | @oL a vs _ ha r =>
    have hfs : a ∈ fs := by rw [h2]; simp
    have hne : ∀ b ∈ f1 ++ f2, b ≠ a := fun b hb z => by
      subst z
      have hn := S.nd
      rw [h2, List.nodup_append] at hn
      obtain ⟨_, n2, n3⟩ := hn
      rcases List.mem_append.mp hb with hb | hb
      · exact n3 b hb b (by simp) rfl
      · rw [List.nodup_append] at n2
        exact n2.2.2 b (by simp) b hb rfl
    have hB := (S.fr a hfs).2
    have hM := (S.fr a hfs).1
    have em : Sub M (upd M a (.lst vs)) := fun b o q => by rw [upd_ne (ne_of_none q hM)]; exact q
    have hsl := h4 (M' := upd M a (.lst vs)) (H' := H) em (fun b hb => rfl) (.sh (v := .ref a) (.lst (SqL.of upd_same) (r.mono em)))
    have hset : σ.set i (some (.ref a)) = σ := by
      obtain ⟨hl, he⟩ := List.getElem?_eq_some_iff.mp h1
      rw [← he, List.set_getElem_self]
    rw [hset] at hsl
    refine ⟨_, _, ⟨S.g.hh, fun b o q => em b o (S.g.nn b o q), S.g.nh.add ha, fun b q => ?_⟩, S.lo.trans em, fun b hb => ?_, ?_, hsl⟩
    · by_cases hb : b = a
      · subst hb; exact .inr hB
      · rw [upd_ne hb] at q; exact S.g.nw b q
    · have hb' : b ∈ f1 ++ f2 := by simpa using hb
      have hbf : b ∈ fs := by
        rw [h2]; simp only [List.mem_append] at hb' ⊢; rcases hb' with h | h <;> simp [h]
      exact ⟨by rw [upd_ne (hne b hb')]; exact (S.fr b hbf).1, (S.fr b hbf).2⟩
    · exact nodup_mid (by rw [← h2]; exact S.nd) .nil fun a ha => by cases ha
end
theorem SO.notR {K : PySem.W.Frag} {me : V} {M H : Hp} {σ : L2.St} {env : Env} {fs : List Addr} (h : SO K me M H σ env fs) : isR env = false ∧ unR env = env := by
  cases h with
  | nil => exact ⟨rfl, rfl⟩
  | cons h1 _ => cases h1 <;> exact ⟨rfl, rfl⟩
theorem SR.notR {K : PySem.W.Frag} {B : Bs} {M H : Hp} {σ : L2.St} {env : Env} {fs : List Addr} (S : SR K B M H σ env fs) : isR env = false := S.sl.notR.1
theorem SR.unR {K : PySem.W.Frag} {B : Bs} {M H : Hp} {σ : L2.St} {env : Env} {fs : List Addr} (S : SR K B M H σ env fs) : SR K B M H σ (unR env) fs := by
  rw [S.sl.notR.2]
  exact S
theorem SR.noR {K : PySem.W.Frag} {B : Bs} {M H : Hp} {σ : L2.St} {env : Env} {fs : List Addr} (S : SR K B M H σ env fs) {P : Prop} (h : isR env = true) : P := by
  rw [S.notR] at h
  cases h
def PostF (K : PySem.W.Frag) (C : Cn) (B : Bs) (D : Ends) (r : Flow) : Prop := match r with
  | .next e => ∀ M H σ fs, SR K B M H σ e fs → D.nx σ H
  | .brk e => ∀ M H σ fs, SR K B M H σ e fs → D.bk σ H
  | .cont e => ∀ M H σ fs, SR K B M H σ e fs → D.ct σ H
  | .ret x e => ∀ M N H v σ fs, SR K B M H σ (unR e) fs → Sub M N → (∀ a ∈ fs, ∃ o, N a = some o ∧ OwnO o) → Gr B.m B.h N H → RV K N v x → (isR e = true → RV K M v x) → D.rt v H
  | .exc q e => ∃ w, C.W = some w ∧ ∀ cls d M H σ fs, SR K B M H σ e fs → C.XR H cls d q → w cls d σ H
  | .bad => False
def EvS (K : PySem.W.Frag) (C : Cn) (t : TS) (m : ST) : Prop := ∀ B M H σ env fs, SR K B M H σ env fs → ∀ D, PostF K C B D (m env) → t D σ H
structure SSt (X : Cx) (C : Cn) (st : Stmt) (t : TS) (m : ST) : Prop where
  ps : PS X st t
  ev : EvS X.K C t m
structure SSs (X : Cx) (C : Cn) (st : List Stmt) (t : TS) (m : ST) : Prop where
  ps : PSs X st t
  ev : EvS X.K C t m
section
variable {K : PySem.W.Frag} {C : Cn} {B : Bs} {M H : Hp} {σ : L2.St} {env : Env} {fs : List Addr} {D : Ends}
/-- an expression at a statement, over all that stands -/
theorem post_full {α : Type} (S : SR K B M H σ env fs) {r : Res α} {f : α → Flow} {P : α → Hp → Hp → Prop} (h : PostF K C B D (r.flow env f))
    (k : ∀ x N' H', r = .ok x → Gr (full M H fs) H N' H' → SR K B (part N' fs) H' σ env fs → PostF K C B D (f x) → P x N' H') : PostR C σ (full M H fs) H r P := by
  cases r with
  | ok x => exact fun N' H' g => k x N' H' rfl g (S.behind g) h
  | exc q =>
    obtain ⟨w, h1, h2⟩ := h
    exact ⟨w, h1, fun cls d N' H' g hx => h2 cls d _ H' σ fs (S.behind g) hx⟩
  | bad => exact h
theorem post_hid {α : Type} (S : SR K B M H σ env fs) {r : Res α} {f : α → Flow} {P : α → Hp → Hp → Prop} (h : PostF K C B D (r.flow env f))
    (k : ∀ x M' H', r = .ok x → Gr M H M' H' → SR K B M' H' σ env fs → PostF K C B D (f x) → P x M' H') : PostR C σ M H r P := by
  cases r with
  | ok x => exact fun M' H' g => k x M' H' rfl g (S.behindH g) h
  | exc q =>
    obtain ⟨w, h1, h2⟩ := h
    exact ⟨w, h1, fun cls d N' H' g hx => h2 cls d _ H' σ fs (S.behindH g) hx⟩
  | bad => exact h
theorem PostF.ite {c : Prop} [Decidable c] {a : Flow} (h : PostF K C B D (if c then a else .bad)) : c ∧ PostF K C B D a := by
  split at h
  · rename_i hc; exact ⟨hc, h⟩
  · exact h.elim
theorem PostF.bind {r : Flow} {f : Env → Flow} (h : PostF K C B D (r.bind f)) (k : ∀ e, PostF K C B D (f e) → ∀ M H σ fs, SR K B M H σ e fs → D.nx σ H) : PostF K C B D r := by
  cases r with
  | next e => exact k e h
  | _ => exact h
theorem es_next : EvS K C tNext sNext := fun B M H σ env fs S D h => h M H σ fs S
theorem es_seq {t u : TS} {m n : ST} (h1 : EvS K C t m) (h2 : EvS K C u n) : EvS K C (tSeq t u) (sSeq m n) := fun B M H σ env fs S D h => by
  refine h1 B M H σ env fs S { D with nx := u D } ?_
  cases hm : m env with
  | next e =>
    intro M' H' σ' fs' S'
    refine h2 B M' H' σ' e fs' S' D ?_
    have : PostF K C B D ((m env).bind n) := h
    rw [hm] at this
    exact this
  | brk e => have : PostF K C B D ((m env).bind n) := h; rw [hm] at this; exact this
  | cont e => have : PostF K C B D ((m env).bind n) := h; rw [hm] at this; exact this
  | ret e => have : PostF K C B D ((m env).bind n) := h; rw [hm] at this; exact this
  | exc q e => have : PostF K C B D ((m env).bind n) := h; rw [hm] at this; exact this
  | bad => have : PostF K C B D ((m env).bind n) := h; rw [hm] at this; exact this
/-- ahead of a statement: the slot's list stays from here on -/
theorem es_freeze {t : TS} {m : ST} {i : Nat} (h1 : EvS K C t m) : EvS K C t (sSeq (sFreeze i) m) := fun B M H σ env fs S D h => by
  have h : PostF K C B D ((sFreeze i env).bind m) := h
  unfold sFreeze at h
  split at h
  · rename_i xs hx
    obtain ⟨M', fs', S'⟩ := S.freeze hx
    exact h1 B M' H σ _ fs' S' D h
  · exact h.elim
theorem es_set {te : TE} {m : EX} {i : Nat} (ha : EvE K C te m) : EvS K C (tAsg te (gName i)) (sSet i m) := fun B M H σ env fs S D h => by
  refine ha M H σ (hide env) S.g.nh S.sl.hid _ (post_hid S h fun x M' H' _ g S' hx v rv => ?_)
  obtain ⟨hi, hx⟩ := PostF.ite hx
  obtain ⟨fs', S2⟩ := S'.putV (i := i) rv
  exact hx M' H' _ fs' S2
theorem es_setN {te : TE} {m : EX} {i : Nat} (ha : EvE K C te m) : EvS K C (tAsg te (gName i)) (sSetN i m) := fun B M H σ env fs S D h => by
  refine ha _ H σ env (full_sub S) S.sv _ (post_full S h fun x N' H' _ g S' hx v rv => ?_)
  obtain ⟨⟨hi, hn⟩, hx⟩ := PostF.ite hx
  obtain ⟨fs', S2⟩ := S'.putV (i := i) (RV.strip (S.kindsN g) x rv hn)
  exact hx _ H' _ fs' S2
theorem es_put {te : TE} {m : EX} {g : TG} {put : Put} {is : List Nat} (hp : EvP K g put is) (hnx : ∀ x env, NX (put x env)) (ha : EvE K C te m) : EvS K C (tAsg te g) (sPut put m) := fun B M H σ env fs S D h => by
  refine ha M H σ (hide env) S.g.nh S.sl.hid _ (post_hid S h fun x M' H' _ g S' hx v rv => ?_)
  cases hq : put x env with
  | bad => rw [hq] at hx; exact hx.elim
  | exc q => exact absurd hq (hnx x env q)
  | ok e =>
    rw [hq] at hx
    refine hp M' H' σ env v x e S'.g.nh rv hq _ fun l hl he => ?_
    obtain ⟨fs', S2⟩ := S'.sets (l := l) fun t ht => (hl t ht).2
    rw [← he] at S2
    exact hx M' H' _ fs' S2
theorem es_own {te : TE} {m : EX} {i : Nat} (ha : EvF K C te m) : EvS K C (tAsg te (gName i)) (sOwn i m) := fun B M H σ env fs S D h => by
  refine ha M H σ (hide env) S.g.nh S.sl.hid _ (post_hid S h fun x M' H' _ g S' hx => ?_)
  cases x with
  | lst xs =>
    obtain ⟨hi, hx⟩ := PostF.ite hx
    refine ⟨xs, rfl, fun p vs hp rvs => ?_⟩
    obtain ⟨fs', S2⟩ := S'.own hi hp rvs
    exact hx M' _ _ fs' S2
  | _ => exact hx.elim
theorem es_drop {te : TE} {m : EX} (ha : EvE K C te m) : EvS K C (tDrop te) (sDrop m) := fun B M H σ env fs S D h => by
  refine ha _ H σ env (full_sub S) S.sv _ (post_full S h fun x N' H' _ g S' hx v rv => ?_)
  exact hx _ H' σ fs S'
theorem es_append {te : TE} {m : EX} {i : Nat} (ha : EvE K C te m) : EvS K C (tDrop (tBM K "list" rAppend (tVar i) (tCons te tNil))) (sAppend i m) := fun B M H σ env fs S D h => by
  unfold sAppend at h
  split at h
  · rename_i xs hx
    obtain ⟨a, vs, h1, h2, h3, _⟩ := S.write hx
    refine ⟨.ref a, h1, .inl ⟨rfl, vs, SqL.of h2⟩, ?_⟩
    refine ha M H σ (hide env) S.g.nh S.sl.hid _ (post_hid S h fun x M' H' _ g S' hq v rv => ?_)
    obtain ⟨hl, hq⟩ := PostF.ite hq
    obtain ⟨a', vs', k1, k2, k3, k4⟩ := S'.write hx
    rw [h1] at k1
    cases k1
    refine ⟨a, vs', v, rfl, rfl, k2, by rw [line_eq, k3.length]; exact hl, ?_⟩
    exact hq M' _ σ fs (k4 (k3.append (.cons rv .nil)))
  · exact h.elim
theorem es_appendN {te : TE} {m : EX} {i : Nat} (ha : EvE K C te m) : EvS K C (tDrop (tBM K "list" rAppend (tVar i) (tCons te tNil))) (sAppendN i m) := fun B M H σ env fs S D h => by
  unfold sAppendN at h
  split at h
  · rename_i xs hx
    obtain ⟨a, vs, h1, h2, h3, _⟩ := S.write hx
    refine ⟨.ref a, h1, .inl ⟨rfl, vs, SqL.of h2⟩, ?_⟩
    refine ha _ H σ env (full_sub S) S.sv _ (post_full S h fun x N' H' _ g S' hq v rv => ?_)
    obtain ⟨⟨hl, hn⟩, hq⟩ := PostF.ite hq
    obtain ⟨a', vs', k1, k2, k3, k4⟩ := S'.write hx
    rw [h1] at k1
    cases k1
    refine ⟨a, vs', v, rfl, rfl, k2, by rw [line_eq, k3.length]; exact hl, ?_⟩
    exact hq _ _ σ fs (k4 (k3.append (.cons (RV.strip (S.kindsN g) x rv hn) .nil)))
  · exact h.elim
theorem RVs.set {N : Hp} {v : V} {x : Val} (h : RV K N v x) : ∀ {vs : List V} {xs : List Val} {j : Nat}, RVs K N vs xs → RVs K N (vs.set j v) (xs.set j x)
  | _, _, _, .nil => .nil
  | _, _, 0, .cons _ r => .cons h r
  | _, _, _ + 1, .cons h1 r => .cons h1 (RVs.set h r)
theorem ixN_eq (n : Nat) (k : Int) : ixN n k = ixNat n k := rfl
theorem item_put {ti : TE} {b : EX} {i : Nat} {v : V} {x : Val} {xs : List Val} (hx : env[i]? = some (.oL xs)) (hb : EvE K C ti b) (S : SR K B M H σ env fs) (r : RV K M v x) (h : PostF K C B D ((b env).flow env fun k => itemPut i env x k)) : gSub (tVar i) ti rSetL v σ H D.nx := by
  obtain ⟨a, vs, h1, h2, h3, _⟩ := S.write hx
  refine ⟨.ref a, h1, ?_⟩
  refine hb _ H σ env (full_sub S) S.sv _ (post_full S h fun k N' H' _ g S' hk w rw' => ?_)
  unfold itemPut at hk
  rw [hx] at hk
  cases k with
  | int k' =>
    have hk : PostF K C B D (match ixNat xs.length k' with
      | some j => .next (env.set i (.oL (xs.set j x)))
      | none => .bad) := hk
    cases hj : ixNat xs.length k' with
    | none => rw [hj] at hk; exact hk.elim
    | some j =>
      rw [hj] at hk
      obtain ⟨a', vs', k1, k2, k3, k4⟩ := S'.write hx
      rw [h1] at k1
      cases k1
      cases rw'
      refine ⟨a, vs', k', j, rfl, rfl, k2, by rw [ixN_eq, k3.length]; exact hj, ?_⟩
      have e1 : Sub M (part N' fs) := fun b o q => by
        unfold part
        rw [if_neg fun h => by rw [(S.fr b h).1] at q; cases q]
        exact g.nn b o (sub_full S b o q)
      exact hk _ _ σ fs (k4 (RVs.set (r.mono e1) k3))
  | _ => exact hk.elim
theorem es_item {te ti : TE} {m b : EX} {i : Nat} (ha : EvE K C te m) (hb : EvE K C ti b) : EvS K C (tAsg te (gSub (tVar i) ti rSetL)) (sOn i (sItem i b m)) := fun B M H σ env fs S D h => by
  unfold sOn at h
  split at h
  · rename_i xs hx
    refine ha M H σ (hide env) S.g.nh S.sl.hid _ (post_hid S h fun x M' H' _ g S' hq v rv => ?_)
    exact item_put hx hb S' rv hq
  · exact h.elim
theorem es_if {tt : TT} {mt : EB} {t u : TS} {m n : ST} (hc : EvB K C tt mt) (h1 : EvS K C t m) (h2 : EvS K C u n) : EvS K C (tIfS tt t u) (sIf mt m n) := fun B M H σ env fs S D h => by
  refine hc _ H σ env (full_sub S) S.sv _ (post_full S h fun b N' H' _ g S' hq => ?_)
  cases b with
  | true => exact h1 B _ H' σ env fs S' D hq
  | false => exact h2 B _ H' σ env fs S' D hq
theorem es_ret {te : TE} {m : EX} (ha : EvE K C te m) : EvS K C (tRet te) (sRet m) := fun B M H σ env fs S D h => by
  refine ha _ H σ env (full_sub S) S.sv _ (post_full S h fun x N' H' _ g S' hq v rv => ?_)
  refine hq (part N' fs) N' H' v σ fs S'.unR (fun a o q => ?_) (S.kindsN g) ((full_gr S).trans g) rv fun z => S'.noR z
  unfold part at q
  split at q
  · cases q
  · exact q
theorem es_while {tt : TT} {mt : EB} {t : TS} {m : ST} {n : Nat} (hc : EvB K C tt mt) (h1 : EvS K C t m) : EvS K C (tWhile tt t) (sWhile n mt m) := fun B M H σ env fs S D h => by
  refine ⟨fun k σ H => ∃ M env fs, SR K B M H σ env fs ∧ PostF K C B D (whileL mt m k env), ⟨n, M, env, fs, S, h⟩, ?_⟩
  rintro k σ H ⟨M, env, fs, S, h⟩
  cases k with
  | zero => exact h.elim
  | succ k =>
    refine hc _ H σ env (full_sub S) S.sv _ (post_full S h fun b N' H' _ g S' hq => ?_)
    cases b with
    | false => exact hq _ H' σ fs S'
    | true =>
      refine ⟨fun σ' H' => ∃ M env fs, SR K B M H' σ' env fs ∧ PostF K C B D (whileL mt m k env), fun σ' H' w => ⟨k, Nat.lt_succ_self _, w⟩, ?_⟩
      refine h1 B _ H' σ env fs S' _ ?_
      have hq' : PostF K C B D (match m env with
        | .next e' => whileL mt m k e'
        | .cont e' => whileL mt m k e'
        | .brk e' => .next e'
        | .ret v e' => .ret v e'
        | .exc q e' => .exc q e'
        | .bad => .bad) := hq
      cases hm : m env with
      | next e => rw [hm] at hq'; exact fun M' H' σ' fs' S' => ⟨M', e, fs', S', hq'⟩
      | cont e => rw [hm] at hq'; exact fun M' H' σ' fs' S' => ⟨M', e, fs', S', hq'⟩
      | brk e => rw [hm] at hq'; exact hq'
      | ret v => rw [hm] at hq'; exact hq'
      | exc q e => rw [hm] at hq'; exact hq'
      | bad => rw [hm] at hq'; exact hq'
theorem es_for {wi : TI} {it : EI} {g : TG} {put : Put} {is : List Nat} {t : TS} {m : ST} (hi : EvI K C wi it) (hp : EvP K g put is) (h1 : EvS K C t m) : EvS K C (tFor wi g t) (sFor it put m) := fun B M H σ env fs S D h => by
  refine hi M H σ (hide env) S.g.nh S.sl.hid _ (post_hid S h fun xs M1 H1 _ g1 S1 hq J hJ => ?_)
  obtain ⟨G, Y, w, hG, hY⟩ := hJ
  refine for_it w (fun i σ H => ∃ M env fs, Sub M1 M ∧ SR K B M H σ env fs ∧ PostF K C B D (forL put m (xs.drop i) env)) ⟨M1, env, fs, Same.refl _, S1, by rw [List.drop_zero]; exact hq⟩ ?_ ?_ ?_
  · rintro i σ H hi ⟨M, env, fs, e, S, _⟩
    exact hG H (S.g.nh.low e)
  · rintro i v σ Hi Hx hi ⟨M, env, fs, e, S, hf⟩ y
    obtain ⟨Nx, x, gx, hx, rx⟩ := hY i Hi v Hx hi (S.g.nh.low e) y
    rw [List.drop_eq_getElem_cons hi] at hf
    have hxe : xs[i] = x := by rw [List.getElem?_eq_getElem hi] at hx; exact Option.some.inj hx
    rw [hxe] at hf
    -- the frozen part: with what the item made
    let Nu : Hp := fun a => if Nx a = none then M a else Nx a
    have gu : Gr M Hi Nu Hx := gx.join S.g.nh e
    have u1 : Sub Nx Nu := fun a o q => by show (if Nx a = none then M a else Nx a) = some o; rw [if_neg (by rw [q]; simp)]; exact q
    have S2 := S.behindH gu
    have hf' : PostF K C B D ((put x env).nx.flow env fun e => match m e with
        | .next e' => forL put m (xs.drop (i + 1)) e'
        | .cont e' => forL put m (xs.drop (i + 1)) e'
        | .brk e' => .next e'
        | .ret v e' => .ret v e'
        | .exc q e' => .exc q e'
        | .bad => .bad) := hf
    cases hput : put x env with
    | bad => rw [hput] at hf'; exact hf'.elim
    | exc q => rw [hput] at hf'; exact hf'.elim
    | ok e1 =>
      rw [hput] at hf'
      refine hp Nu Hx σ env v x e1 S2.g.nh (rx.mono u1) hput _ fun l hl he => ?_
      obtain ⟨fs', S3⟩ := S2.sets (l := l) fun t ht => (hl t ht).2
      rw [← he] at S3
      have eu : Sub M1 Nu := e.trans gu.nn
      refine h1 { B with l := M1 } Nu Hx _ e1 fs' (S3.at_low eu) _ ?_
      have hf2 : PostF K C B D (match m e1 with
        | .next e' => forL put m (xs.drop (i + 1)) e'
        | .cont e' => forL put m (xs.drop (i + 1)) e'
        | .brk e' => .next e'
        | .ret v e' => .ret v e'
        | .exc q e' => .exc q e'
        | .bad => .bad) := hf'
      cases hm : m e1 with
      | next e => rw [hm] at hf2; exact fun M' H' σ' fs' S' => ⟨M', e, fs', S'.lo, S'.of_low S1.lo, hf2⟩
      | cont e => rw [hm] at hf2; exact fun M' H' σ' fs' S' => ⟨M', e, fs', S'.lo, S'.of_low S1.lo, hf2⟩
      | brk e => rw [hm] at hf2; exact fun M' H' σ' fs' S' => hf2 M' H' σ' fs' (S'.of_low S1.lo)
      | ret v ev => rw [hm] at hf2; exact fun M2 N2 H2 v2 σ2 fs2 S2 sb hk g rv hr => hf2 M2 N2 H2 v2 σ2 fs2 (S2.of_low S1.lo) sb hk g rv hr
      | exc q e =>
        rw [hm] at hf2
        obtain ⟨w, q1, q2⟩ := hf2
        exact ⟨w, q1, fun cls d M H σ fs S' hx => q2 cls d M H σ fs (S'.of_low S1.lo) hx⟩
      | bad => rw [hm] at hf2; exact hf2.elim
  · rintro σ H ⟨M, env, fs, e, S, hf⟩
    rw [List.drop_length] at hf
    exact hf M H σ fs S
end
end Vm
namespace Vm
open PySem L2 PyProof.Rows
variable [TabsOf]
/-- a dict that is made -/
def EvFD (K : PySem.W.Frag) (C : Cn) (te : TE) (m : EX) : Prop := ∀ N H σ env, Inn N H → SV K N σ env → ∀ Q : VK, PostR C σ N H (m env) (fun x N' H' => ∃ xs, x = .dct xs ∧ ∀ p vs, H' p = none → RKs K N' vs xs → Q (.ref p) (upd H' p (.dK vs))) → te σ H Q
end Vm
namespace Vm
open PySem L2 PyProof.Rows
variable [TabsOf]
theorem RV.tru {K : PySem.W.Frag} {N H : Hp} (e : Inn N H) {v : V} {x : Val} {k : Bool} (r : RV K N v x) (h : truth x = .ok k) : TruV K v H k := by
  cases r with
  | non => cases h; rfl
  | bl b => cases h; rfl
  | int i => cases h; rfl
  | str y =>
    simp only [truth] at h
    split at h
    · rename_i hl
      cases h
      refine ⟨len_line hl, ?_⟩
      show (y.length != 0) = ((y.length : Int) != 0)
      rw [Bool.eq_iff_iff]
      simp
    · cases h
  | tup h1 r =>
    cases h
    refine .inr (.inl ⟨_, st_mono e.sub h1, ?_⟩)
    cases r <;> rfl
  | lst h1 r =>
    cases h
    refine .inl ⟨_, sq_mono e.sub h1, ?_⟩
    cases r <;> rfl
  | dct _ _ => cases h
  | dck _ _ => cases h
  | dcT _ _ => cases h
  | ob _ _ => cases h
theorem nx_truth (x : Val) : NX (truth x) := by
  unfold truth
  split <;> first | exact nx_ok | exact nx_bad | exact nx_ite nx_ok nx_bad
abbrev tTru (K : PySem.W.Frag) (ta : TE) : TT := fun σ H Q => ta σ H fun x H' => ∃ k, TruV K x H' k ∧ Q k H'
theorem eb_truth {K : PySem.W.Frag} {C : Cn} {ta : TE} {ma : EX} (ha : EvE K C ta ma) : EvB K C (tTru K ta) (bTruth ma) := fun N H σ env e s Q h => by
  refine ha N H σ env e s _ (PostR.imp (PostR.bind h) fun x N1 H1 g1 h1 v rv => ?_)
  obtain ⟨k, hk, h2⟩ := h1.val (nx_truth x)
  exact ⟨k, rv.tru g1.nh hk, h2 N1 H1 (Gr.refl g1.nh)⟩
theorem units65 {k : Nat} {A : Around} (r : Room k A) : A.units + 65 < cLine := by have := r.un; omega
/-- what a body's context gives -/
structure Fr (X : Cx) (C : Cn) : Prop where
  hu : X.A.units + 65 < cLine
  ca : X.calm = true
  le : Lets X C
  ow : PassesOwn (model X.prog X.w) X.A X.env X.xe
theorem Fr.blk {X : Cx} {C : Cn} (F : Fr X C) (s : Shared) (H : Hp) (scope : Scope) (cenv : PySem.Env) (fp : List Addr) : Fr (X.blk s H scope cenv fp) (C0 C) := ⟨F.hu, F.ca, Lets.no, PassesOwn.never⟩
section
variable {X : Cx} {C : Cn} {a b c : Expr} {ta tb tc : TE} {ma mb mc : EX} {pos p : Pos}
theorem se_var (i : Nat) {x : Str} (hN : X.N[i]? = some x := by rfl) (hv : Vis X.env.scope x := by first | exact Or.inl rfl | exact Or.inr (Or.inl rfl) | exact Or.inr (Or.inr rfl)) (hd : (x == ("__debug__" : Str)) = false := by decide)
    (hcd : (x == ("__classdict__" : Str)) = false := by decide) : SE X C (.Name x pos) (tVar i) (eVar i) := ⟨pv i hN hv hd hcd, ev_var⟩
theorem se_int {i : Int} {j} : SE X C (.Constant (.int i) j pos) (tC (.int i)) (eC (.int i)) := ⟨pe_int, ev_c fun _ => .int i⟩
theorem se_bl {b : Bool} {j} : SE X C (.Constant (.bool b) j pos) (tC (.bl b)) (eC (.bl b)) := ⟨pe_bl, ev_c fun _ => .bl b⟩
theorem se_non {j} : SE X C (.Constant .none j pos) (tC .non) (eC .non) := ⟨pe_non, ev_c fun _ => .non⟩
theorem se_str {x : Str} {j} : SE X C (.Constant (.str x) j pos) (tC (.str x)) (eC (.str x)) := ⟨pe_str, ev_c fun _ => .str x⟩
/-- an int of the module -/
theorem se_gi {x : Str} {i : Int} (hm : ∃ t, X.mg x = some (.int i t)) (hg : Gl X x := by rfl) (hd : (x == ("__debug__" : Str)) = false := by decide) : SE X C (.Name x pos) (tC (.int i)) (eC (.int i)) := by
  obtain ⟨t, hm⟩ := hm
  exact ⟨pe_glob hg hm ⟨t, rfl⟩ hd, ev_c fun _ => .int i⟩
theorem se_add (ha : SE X C a ta ma) (hb : SE X C b tb mb) : SE X C (.BinOp a .Add b pos) (tOp (rAddV X.K) ta tb) (e2 vAdd ma mb) := ⟨pe_op op_addV ha.pe hb.pe, ev_op ops_add nx_add ha.ev hb.ev⟩
theorem se_sub (ha : SE X C a ta ma) (hb : SE X C b tb mb) : SE X C (.BinOp a .Sub b pos) (tOp (rI0 fun i j => .int (i - j)) ta tb) (e2 vSub ma mb) := ⟨pe_op op_sub ha.pe hb.pe, ev_op ops_sub nx_sub ha.ev hb.ev⟩
theorem se_mul (ha : SE X C a ta ma) (hb : SE X C b tb mb) : SE X C (.BinOp a .Mult b pos) (tOp rMulV ta tb) (e2 vMul ma mb) := ⟨pe_op op_mul ha.pe hb.pe, ev_op ops_mul nx_mul ha.ev hb.ev⟩
theorem se_div (ha : SE X C a ta ma) (hb : SE X C b tb mb) : SE X C (.BinOp a .FloorDiv b pos) (tOp rDivV ta tb) (e2 vDiv ma mb) := ⟨pe_op op_fdivW ha.pe hb.pe, ev_op ops_div nx_div ha.ev hb.ev⟩
theorem se_mod (ha : SE X C a ta ma) (hb : SE X C b tb mb) : SE X C (.BinOp a .Mod b pos) (tOp rModV ta tb) (e2 vMod ma mb) := ⟨pe_op op_mod ha.pe hb.pe, ev_op ops_mod nx_mod ha.ev hb.ev⟩
theorem se_pow (ha : SE X C a ta ma) (hb : SE X C b tb mb) : SE X C (.BinOp a .Pow b pos) (tOp rPowV ta tb) (e2 vPow ma mb) := ⟨pe_op op_pow ha.pe hb.pe, ev_op ops_pow nx_pow ha.ev hb.ev⟩
theorem se_neg (ha : SE X C a ta ma) : SE X C (.UnaryOp .USub a pos) (tUn (rU fun i => .int (-i)) ta) (e1 vNeg ma) := ⟨pe_un un_neg ha.pe, ev_un uns_neg nx_neg ha.ev⟩
theorem se_not (ha : SE X C a ta ma) : SE X C (.UnaryOp .Not a pos) (tNotV ta) (eNot ma) := ⟨pe_not ha.pe, ev_not ha.ev⟩
/-- a comparison, as it stands in a Compare -/
structure CmpS (X : Cx) (op : CmpOp) (r : R2) (f : Val → Val → Res Val) : Prop where
  o : OpR X (compareOp op) r
  s : OpS X.K r f
  n : ∀ x y, NX (f x y)
theorem c_lt : CmpS X .Lt (rI0 fun i j => .bl (decide (i < j))) vLt := ⟨op_lt, ops_lt, nx_lt⟩
theorem c_le : CmpS X .LtE (rI0 fun i j => .bl (decide (i ≤ j))) vLe := ⟨op_le, ops_le, nx_le⟩
theorem c_gt : CmpS X .Gt (rI0 fun i j => .bl (decide (j < i))) vGt := ⟨op_gt, ops_gt, nx_gt⟩
theorem c_ge : CmpS X .GtE (rI0 fun i j => .bl (decide (j ≤ i))) vGe := ⟨op_ge, ops_ge, nx_ge⟩
theorem c_eq (F : Fr X C) : CmpS X .Eq (rEqV X.K) vEq := ⟨op_eqV (by have := F.hu; omega), ops_eq, nx_eq⟩
theorem c_ne (F : Fr X C) : CmpS X .NotEq (rNeV X.K) vNe := ⟨op_neV (by have := F.hu; omega), ops_ne, nx_ne⟩
theorem c_in (F : Fr X C) : CmpS X .In (rInW X.K) vIn := ⟨op_inW (Nat.lt_of_le_of_lt (Nat.add_le_add_left (by decide : 1 ≤ 65) _) F.hu), ops_inW, nx_inV⟩
theorem c_ni (F : Fr X C) : CmpS X .NotIn (rNotInW X.K) vNotIn := ⟨op_notInW (Nat.lt_of_le_of_lt (Nat.add_le_add_left (by decide : 1 ≤ 65) _) F.hu), ops_notInW, nx_notInV⟩
theorem c_is : CmpS X .Is rIsN vIs := ⟨op_isN, ops_is, nx_is⟩
theorem se_cmp {op : CmpOp} {r : R2} {f : Val → Val → Res Val} (o : CmpS X op r f) (ha : SE X C a ta ma) (hb : SE X C b tb mb) (hm : behindInMarks op b = false := by first | exact nomark _ | rfl) : SE X C (.Compare a [op] [b] pos) (tOp r ta tb) (e2 f ma mb) := ⟨pe_cmpR o.o ha.pe hb.pe hm, ev_op o.s o.n ha.ev hb.ev⟩
variable {tt tu : TT} {mt mu : EB} {rest : List Expr}
theorem se_one {op} (ha : SE X C a ta ma) : SE X C (.BoolOp op [a] pos) ta ma := ⟨pe_one ha.pe, ha.ev⟩
theorem se_and (ha : SE X C a ta ma) (hb : SE X C (.BoolOp .And (b :: rest) pos) tb mb) : SE X C (.BoolOp .And (a :: b :: rest) pos) (tAndV ta tb) (eAnd ma mb) := ⟨pe_and ha.pe hb.pe, ev_and ha.ev hb.ev⟩
theorem Fr.u1 {X : Cx} {C : Cn} (F : Fr X C) : X.A.units + 1 < cLine := Nat.lt_of_le_of_lt (Nat.add_le_add_left (by decide : 1 ≤ 65) _) F.hu
theorem se_ix (F : Fr X C) (ha : SE X C a ta ma) (hb : SE X C b tb mb) (hs : PlainIx b := by intro _ _; rfl) : SE X C (.Subscript a b pos) (tOp (rIxV X.K) ta tb) (e2 vIx ma mb) := ⟨pe_ix (ix_V F.u1) ha.pe hb.pe hs, ev_op ops_ixV nx_ixV ha.ev hb.ev⟩
structure SO' (X : Cx) (C : Cn) (e : Option Expr) (te : TO) (m : Option EX) : Prop where
  pe : PO X e te
  ev : EvO X.K C te m
theorem so_none : SO' X C none tNoPart none := ⟨po_none, eo_none⟩
theorem so_some (ha : SE X C a ta ma) : SO' X C (some a) (tPart ta) (some ma) := ⟨po_some ha.pe, eo_some ha.ev⟩
theorem se_cut {lo hi : Option Expr} {tl th : TO} {ml mh : Option EX} {p2 : Pos} (ha : SE X C a ta ma) (hl : SO' X C lo tl ml) (hh : SO' X C hi th mh) : SE X C (.Subscript a (.Slice lo hi none p2) pos) (tSl (rSlV X.K) ta tl th) (eCut ma ml mh) :=
  ⟨pe_slice sl_V ha.pe hl.pe hh.pe, ev_cut ha.ev hl.ev hh.ev⟩
variable {es : List Expr} {t : TA} {m : EL}
theorem sa_nil : SA X C [] tNil aNil := ⟨pa_nil, ea_nil⟩
theorem sa_cons (ha : SE X C a ta ma) (hr : SA X C es t m) (hs : starEach (a :: es) X.env = (false, eval a X.env) :: starEach es X.env := by rfl) : SA X C (a :: es) (tCons ta t) (aCons ma m) := ⟨pa_cons ha.pe hr.pe hs, ea_cons ha.ev hr.ev⟩
theorem se_tup {x1} (h : SA X C es t m) : SE X C (.Tuple es x1 pos) (tTup t) (eArgs vTup m) := ⟨pe_tup h.pe, ev_tup h.ev⟩
theorem sf_lst (h : SA X C es t m) : SF X C (.List es pos) (tLst t) (eArgs vLst m) := ⟨pe_lst h.pe, ef_lst h.ev⟩
theorem lst_lst (env : Env) (x : Val) (h : eArgs vLst m env = .ok x) : ∃ xs, x = .lst xs := by
  unfold eArgs at h
  cases hm : m env with
  | ok ys =>
    rw [hm] at h
    simp only [Res.bind_ok, vLst] at h
    split at h
    · cases h; exact ⟨_, rfl⟩
    · cases h
  | exc e => rw [hm] at h; cases h
  | bad => rw [hm] at h; cases h
theorem se_lst (h : SA X C es t m) : SE X C (.List es pos) (tLst t) (eArgs vLst m) := ⟨pe_lst h.pe, EvF.e lst_lst (ef_lst h.ev)⟩
theorem se_len (hm : X.mg "len" = none) (h : SA X C (a :: es) t m) (hg : Gl X "len" := by rfl) (he : starEach (a :: es) X.env = (false, eval a X.env) :: starEach es X.env := by rfl) (hpl : (backTo pos (starEach es X.env)).any (·.1) = false := by rfl) :
    SE X C (.Call (.Name "len" p) (a :: es) [] pos) (tCB (rLenC X.K) t) (eArgs vLen m) := ⟨pe_callB call_lenC hg hm boot_len h.pe (by decide) (by decide) he hpl, ev_cb ca_len nx_len h.ev⟩
theorem se_sum (F : Fr X C) (hm : X.mg "sum" = none) (h : SA X C (a :: es) t m) (hg : Gl X "sum" := by rfl) (he : starEach (a :: es) X.env = (false, eval a X.env) :: starEach es X.env := by rfl) (hpl : (backTo pos (starEach es X.env)).any (·.1) = false := by rfl) :
    SE X C (.Call (.Name "sum" p) (a :: es) [] pos) (tCB (rSum X.K) t) (eArgs vSum m) := ⟨pe_callB (cr_sum F.ca) hg hm (by decide +kernel) h.pe (by decide) (by decide) he hpl, ev_cb ca_sum nx_sum h.ev⟩
theorem se_max (F : Fr X C) (hm : X.mg "max" = none) (h : SA X C (a :: es) t m) (hg : Gl X "max" := by rfl) (he : starEach (a :: es) X.env = (false, eval a X.env) :: starEach es X.env := by rfl) (hpl : (backTo pos (starEach es X.env)).any (·.1) = false := by rfl) :
    SE X C (.Call (.Name "max" p) (a :: es) [] pos) (tCB (rMaxC X.K) t) (eArgs vMax m) := ⟨pe_callB (call_maxC F.ca) hg hm (by decide +kernel) h.pe (by decide) (by decide) he hpl, ev_cb ca_max nx_max h.ev⟩
theorem se_min (F : Fr X C) (hm : X.mg "min" = none) (h : SA X C (a :: es) t m) (hg : Gl X "min" := by rfl) (he : starEach (a :: es) X.env = (false, eval a X.env) :: starEach es X.env := by rfl) (hpl : (backTo pos (starEach es X.env)).any (·.1) = false := by rfl) :
    SE X C (.Call (.Name "min" p) (a :: es) [] pos) (tCB (rMinC X.K) t) (eArgs vMin m) := ⟨pe_callB (call_minC F.ca) hg hm (by decide +kernel) h.pe (by decide) (by decide) he hpl, ev_cb ca_min nx_min h.ev⟩
theorem se_any (F : Fr X C) (hm : X.mg "any" = none) (h : SA X C (a :: es) t m) (hg : Gl X "any" := by rfl) (he : starEach (a :: es) X.env = (false, eval a X.env) :: starEach es X.env := by rfl) (hpl : (backTo pos (starEach es X.env)).any (·.1) = false := by rfl) :
    SE X C (.Call (.Name "any" p) (a :: es) [] pos) (tCB (rAny X.K) t) (eArgs vAny m) := ⟨pe_callB (cr_any F.ca) hg hm (by decide +kernel) h.pe (by decide) (by decide) he hpl, ev_cb ca_any nx_any h.ev⟩
theorem se_all (F : Fr X C) (hm : X.mg "all" = none) (h : SA X C (a :: es) t m) (hg : Gl X "all" := by rfl) (he : starEach (a :: es) X.env = (false, eval a X.env) :: starEach es X.env := by rfl) (hpl : (backTo pos (starEach es X.env)).any (·.1) = false := by rfl) :
    SE X C (.Call (.Name "all" p) (a :: es) [] pos) (tCB (rAll X.K) t) (eArgs vAll m) := ⟨pe_callB (cr_all F.ca) hg hm (by decide +kernel) h.pe (by decide) (by decide) he hpl, ev_cb ca_all nx_all h.ev⟩
theorem se_intOf (hm : X.mg "int" = none) (h : SA X C (a :: es) t m) (hg : Gl X "int" := by rfl) (he : starEach (a :: es) X.env = (false, eval a X.env) :: starEach es X.env := by rfl) (hpl : (backTo pos (starEach es X.env)).any (·.1) = false := by rfl) :
    SE X C (.Call (.Name "int" p) (a :: es) [] pos) (tCB rIntC t) (eArgs vInt m) := ⟨pe_callTy call_intC hg hm PySem.Pv.boot_int h.pe (by decide) (by decide) he hpl, ev_cb ca_int nx_int h.ev⟩
theorem se_tupOf (hm : X.mg "tuple" = none) (h : SA X C (a :: es) t m) (hg : Gl X "tuple" := by rfl) (he : starEach (a :: es) X.env = (false, eval a X.env) :: starEach es X.env := by rfl) (hpl : (backTo pos (starEach es X.env)).any (·.1) = false := by rfl) :
    SE X C (.Call (.Name "tuple" p) (a :: es) [] pos) (tCB (rTupC X.K) t) (eArgs vTupOf m) := ⟨pe_callTy call_tuple_of hg hm PySem.Pv.boot_tuple h.pe (by decide) (by decide) he hpl, ev_cb ca_tupOf nx_tupOf h.ev⟩
theorem sf_listOf (hm : X.mg "list" = none) (h : SA X C (a :: es) t m) (hg : Gl X "list" := by rfl) (he : starEach (a :: es) X.env = (false, eval a X.env) :: starEach es X.env := by rfl) (hpl : (backTo pos (starEach es X.env)).any (·.1) = false := by rfl) :
    SF X C (.Call (.Name "list" p) (a :: es) [] pos) (tCB (rListC X.K) t) (eArgs vListOf m) := ⟨pe_callTy call_list_of hg hm PySem.Pv.boot_list h.pe (by decide) (by decide) he hpl, ef_listOf h.ev⟩
theorem listOf_lst (env : Env) (x : Val) (h : eArgs vListOf m env = .ok x) : ∃ xs, x = .lst xs := by
  unfold eArgs at h
  cases hm : m env with
  | ok ys =>
    rw [hm] at h
    simp only [Res.bind_ok] at h
    unfold vListOf at h
    split at h
    · cases h; exact ⟨_, rfl⟩
    · cases h; exact ⟨_, rfl⟩
    · cases h
  | exc e => rw [hm] at h; cases h
  | bad => rw [hm] at h; cases h
theorem se_listOf (hm : X.mg "list" = none) (h : SA X C (a :: es) t m) (hg : Gl X "list" := by rfl) (he : starEach (a :: es) X.env = (false, eval a X.env) :: starEach es X.env := by rfl) (hpl : (backTo pos (starEach es X.env)).any (·.1) = false := by rfl) :
    SE X C (.Call (.Name "list" p) (a :: es) [] pos) (tCB (rListC X.K) t) (eArgs vListOf m) := ⟨(sf_listOf (C := C) hm h hg he hpl).pe, EvF.e listOf_lst (sf_listOf (C := C) (p := p) (pos := pos) hm h hg he hpl).ev⟩
theorem se_isi {u : Ty} {x : Str} {p2 : Pos} (hm : X.mg "isinstance" = none) (hx : X.mg x = none) (hv : bootBuiltins x = some (.type u.nm)) (ha : SE X C a ta ma) (hg : Gl X "isinstance" := by rfl) (hgx : Gl X x := by rfl) (hn : x ≠ "__name__" := by decide) (hd : (x == ("__debug__" : Str)) = false := by decide)
    (he : starEach [a, .Name x p2] X.env = (false, eval a X.env) :: starEach [.Name x p2] X.env := by rfl) (he2 : starEach [.Name x p2] X.env = (false, eval (.Name x p2) X.env) :: starEach [] X.env := by rfl) (hpl : (backTo pos (starEach [.Name x p2] X.env)).any (·.1) = false := by rfl) :
    SE X C (.Call (.Name "isinstance" p) [a, .Name x p2] [] pos) (tCB (rIsi X.K) (tCons ta (tCons (tC (.ty u.nm)) tNil))) (e1 (vIsi u) ma) :=
  ⟨pe_callB call_isi hg hm boot_isinstance (pa_cons ha.pe (pa_cons (pe_bltn (v := .ty u.nm) hgx hx hv rfl hn hd) pa_nil he2) he) (by decide) (by decide) he hpl, ev_isi ha.ev⟩
theorem bi_int : bootBuiltins "int" = some (.type Ty.int.nm) := by decide +kernel
theorem bi_bool : bootBuiltins "bool" = some (.type Ty.bool.nm) := by decide +kernel
theorem bi_list : bootBuiltins "list" = some (.type Ty.list.nm) := by decide +kernel
theorem sb_cmp {op : CmpOp} {r : R2} {f : Val → Val → Res Val} (o : CmpS X op r f) (ha : SE X C a ta ma) (hb : SE X C b tb mb) (hm : behindInMarks op b = false := by first | exact nomark _ | rfl) : SB X C (.Compare a [op] [b] pos) (tTest (tOp r ta tb)) (bVal (e2 f ma mb)) :=
  ⟨pt_cmpR o.o ha.pe hb.pe hm, eb_test (ev_op o.s o.n ha.ev hb.ev)⟩
theorem sb_chain {op op' : CmpOp} {r r' : R2} {f f' : Val → Val → Res Val} (o : CmpS X op r f) (o' : CmpS X op' r' f') (ha : SE X C a ta ma) (hb : SE X C b tb mb) (hc : SE X C c tc mc) (hm : lastMarks [op, op'] [b, c] = false := by with_unfolding_all rfl) :
    SB X C (.Compare a [op, op'] [b, c] pos) (tTest (tChain r r' ta tb tc)) (bVal (eChain f f' ma mb mc)) := ⟨pt_chain o.o o'.o ha.pe hb.pe hc.pe hm, eb_test (ev_chain o.s o'.s o.n o'.n ha.ev hb.ev hc.ev)⟩
theorem sb_not (ha : SB X C a tt mt) : SB X C (.UnaryOp .Not a pos) (tNot tt) (bNot mt) := ⟨pt_not ha.pe, eb_not ha.ev⟩
theorem sb_tru (ha : SE X C a ta ma) (he : ∀ whole, isTrue a X.env whole = (do let v ← whole; standAt a.pos; holding [v] (truthy v)) := by intro _; rfl) : SB X C a (tTru X.K ta) (bTruth ma) := ⟨pt_truth ha.pe he, eb_truth ha.ev⟩
theorem sw_and1 (ha : SB X C a tt mt) : SW X C (.BoolOp .And [a] pos) tt mt := ⟨pw_and1 ha.pe, ha.ev⟩
theorem sw_or1 (ha : SB X C a tt mt) : SW X C (.BoolOp .Or [a] pos) tt mt := ⟨pw_or1 ha.pe, ha.ev⟩
theorem sw_and (ha : SB X C a tt mt) (hb : SW X C (.BoolOp .And (b :: rest) pos) tu mu) : SW X C (.BoolOp .And (a :: b :: rest) pos) (tAnd tt tu) (bAnd mt mu) := ⟨pw_and ha.pe hb.pe, eb_and ha.ev hb.ev⟩
theorem sw_or (ha : SB X C a tt mt) (hb : SW X C (.BoolOp .Or (b :: rest) pos) tu mu) : SW X C (.BoolOp .Or (a :: b :: rest) pos) (tOr tt tu) (bOr mt mu) := ⟨pw_or ha.pe hb.pe, eb_or ha.ev hb.ev⟩
theorem sb_w (h : SW X C a tt mt) : SB X C a tt mt := ⟨h.pe.pt, h.ev⟩
structure STg (X : Cx) (tg : Expr) (g : TG) (put : Put) (is : List Nat) : Prop where
  pe : PG X tg g
  ev : EvP X.K g put is
theorem sg_name (i : Nat) {x : Str} (hN : X.N.Nodup := by assumption) (hi : X.N[i]? = some x := by rfl) (hx : Loc X.env.scope x := by first | exact .inl rfl | exact .inr rfl) (hf : X.fn x = true ∨ X.env.scope.names.lookup x = some .local := by first | exact .inr rfl | exact .inl rfl) : STg X (.Name x pos) (gName i) (pName i) [i] :=
  ⟨pg_name hN hi hx hf, ep_name⟩
structure STs (X : Cx) (tgs : List Expr) (g : TGs) (is : List Nat) : Prop where
  pe : PGs X tgs g
  ev : EvPs X.K g is
theorem sgs_nil : STs X [] gNil [] := ⟨pgs_nil, eps_nil⟩
theorem sgs_cons {i : Nat} {g : TGs} {is : List Nat} (h1 : STg X a (gName i) (pName i) [i]) (h2 : STs X es g is) (hs : (assignEach (a :: es) X.env).map (·.2) = assign a X.env :: (assignEach es X.env).map (·.2) := by rfl) : STs X (a :: es) (gCons (gName i) g) (i :: is) :=
  ⟨pgs_cons h1.pe h2.pe hs, eps_cons h2.ev⟩
theorem sg_tup {k : Nat} {g : TGs} {is : List Nat} (F : Fr X C) (h : STs X es g is) (hn : (assignEach es X.env).length = is.length := by rfl) (hst : (assignEach es X.env).findIdx? (·.1) = none := by rfl) : STg X (.Tuple es k pos) (gTup X.K is.length g) (pTup is) is := ⟨pg_tup F.ca h.pe hn hst, ep_tup h.ev⟩
theorem si_seq {tg : Expr} (ha : SE X C a ta ma) : SI X C tg a (iSeqT X.K ta) (iSeq ma) := ⟨pi_seqT ha.pe, ei_seq ha.ev⟩
theorem si_rng1 {tg : Expr} (hm : X.mg "range" = none) (ha : SE X C a ta ma) (hg : Gl X "range" := by rfl) (hs : starEach [a] X.env = [(false, eval a X.env)] := by rfl) : SI X C tg (.Call (.Name "range" p) [a] [] pos) (iRng1 (tCons ta tNil)) (iRange1 ma) := ⟨pi_range1 hg hm (pa_cons ha.pe pa_nil hs) hs, ei_range1 ha.ev⟩
theorem si_rng2 {tg : Expr} (hm : X.mg "range" = none) (ha : SE X C a ta ma) (hb : SE X C b tb mb) (hg : Gl X "range" := by rfl) (hs : starEach [a, b] X.env = [(false, eval a X.env), (false, eval b X.env)] := by rfl) (hs2 : starEach [b] X.env = [(false, eval b X.env)] := by rfl) :
    SI X C tg (.Call (.Name "range" p) [a, b] [] pos) (iRng2 (tCons ta (tCons tb tNil))) (iRange2 ma mb) := ⟨pi_range2 hg hm (pa_cons ha.pe (pa_cons hb.pe pa_nil hs2) (by rw [hs, hs2])) hs hs2, ei_range2 ha.ev hb.ev⟩
theorem si_enum {elts : List Expr} {kk : Nat} {tpos : Pos} (hm : X.mg "enumerate" = none) (ha : SE X C a ta ma) (hg : Gl X "enumerate" := by rfl) (hs : starEach [a] X.env = [(false, eval a X.env)] := by rfl) : SI X C (.Tuple elts kk tpos) (.Call (.Name "enumerate" p) [a] [] pos) (iEnum X.K (tCons ta tNil)) (iEnumV ma) := ⟨pi_enum hg hm (pa_cons ha.pe pa_nil hs) hs, ei_enum ha.ev⟩
theorem se_and1 (ha : SE X C a ta ma) (hb : SE X C b tb mb) : SE X C (.BinOp a .BitAnd b pos) (tOp rAnd1 ta tb) (e2 vAnd1 ma mb) := ⟨pe_op op_and1 ha.pe hb.pe, ev_op ops_and1 nx_and1 ha.ev hb.ev⟩
/-- xs.index(e) -/
theorem se_index {pa cp : Pos} (ha : SE X C a ta ma) (hb : SE X C b tb mb) (hbase : attributeBase a "index" X.env (eval a X.env) = eval a X.env := by rfl)
    (hfew : ((backTo cp (starEach [b] X.env)).all (fun x => !x.1) && (backToKw cp (keywordEach [] X.env)).all (fun x => x.1.isSome)
      && decide ([b].length + ([] : List Keyword).length + (if ([] : List Keyword).isEmpty then 0 else 1) < 30)) = true := by rfl)
    (hline : (pa.endLine == cp.line) = true := by rfl) (hs : starEach [b] X.env = (false, eval b X.env) :: starEach [] X.env := by rfl) (hplain : (backTo cp (starEach [] X.env)).any (·.1) = false := by rfl) :
    SE X C (.Call (.Attribute a "index" pa) [b] [] cp) (tBM X.K "list" (rIndex X.K) ta (tCons tb tNil)) (eIndex ma mb) := ⟨pe_bm PySem.F.plainAttrs_list PySem.F.slot_list_index PySem.F.type_list_index mt_index ha.pe (pa_cons hb.pe pa_nil hs) hbase hfew hline hs hplain, ev_index ha.ev hb.ev⟩
theorem se_get2 {pa cp : Pos} (F : Fr X C) (ha : SE X C a ta ma) (hb : SE X C b tb mb) (hc : SE X C c tc mc) (m2 : M2 X a "get" pa b c cp := by exact ⟨rfl, rfl, rfl, rfl⟩) : SE X C (.Call (.Attribute a "get" pa) [b, c] [] cp) (tDGet2 ta tb tc) (eGet2 ma mb mc) := ⟨pe_dget2 F.u1 ha.pe hb.pe hc.pe m2, ev_get2 ha.ev hb.ev hc.ev⟩
end
end Vm
namespace Vm
open PySem L2 PyProof.Rows
variable [TabsOf]
section
variable {X : Cx} {C : Cn} {a b c : Expr} {ta tb tc : TE} {ma mb mc : EX} {pos p : Pos} {tt : TT} {mt : EB}
structure STt (X : Cx) (C : Cn) (es : List Expr) (te : TT) (m : EB) : Prop where
  pe : PTs X es te
  ev : EvB X.K C te m
theorem st_nil : STt X C [] tYes bYes := ⟨pts_nil, fun N H σ env e s Q h => PostR.now (P := fun x _ H' => Q x H') e h⟩
theorem st_one (h : SB X C a tt mt) : STt X C [a] tt mt := ⟨pts_one h.pe, h.ev⟩
abbrev inBlk (X : Cx) (scope : Scope) (P : Cx → Prop) : Prop := ∀ (s : Shared) (H : Hp) (Cc : Addr) (cl : List (Str × Addr)) (fp : List Addr), P (X.blk s H scope (compEnvC scope cl Cc X.env) fp)
theorem sf_comp {elt tg iter : Expr} {ifs : List Expr} {scope : Scope} {own : List (Str × Nat)} {wi : TI} {it : EI} {g : TG} {put : Put} {is : List Nat} {te : TE} {me : EX} (F : Fr X C) (hi : SI X C tg iter wi it) (hp : inBlk X scope fun Y => STg Y tg g put is) (ht : inBlk X scope fun Y => STt Y (C0 C) ifs tt mt)
    (he : inBlk X scope fun Y => SE Y (C0 C) elt te me) (hsub : ∀ i ∈ is, i ∈ own.map (·.2) := by decide) (hN : X.N.Nodup := by assumption) (ok : BlkOk X.N X.env.scope scope own := by exact blkOk_by (by rfl)) (hs : ∀ x, foldedSetIterable iter X.env x = pure x := by intro _; rfl) :
    SF X C (.ListComp elt [⟨tg, iter, ifs, 0⟩] scope pos) (tLc wi g tt te (own.map (·.2))) (eComp it (own.map (·.2)) put mt me) :=
  ⟨pe_lc F.ca hN hi.pi ok (fun s H Cc cl fp => (hp s H Cc cl fp).pe) (fun s H Cc cl fp => (ht s H Cc cl fp).pe) (fun s H Cc cl fp => (he s H Cc cl fp).pe) hs,
   ef_comp hi.ev (hp X.s_0 X.H_0 0 [] []).ev hsub (ht X.s_0 X.H_0 0 [] []).ev (he X.s_0 X.H_0 0 [] []).ev⟩
theorem comp_lst {it : EI} {own : List Nat} {put : Put} (env : Env) (x : Val) (h : eComp it own put mt me env = .ok x) : ∃ xs, x = .lst xs := by
  unfold eComp at h
  cases hm : it env with
  | ok ys =>
    rw [hm] at h
    simp only [Res.bind_ok] at h
    split at h
    · cases hq : compL put mt me (wipeE env own) ys with
      | ok r => rw [hq] at h; cases h; exact ⟨_, rfl⟩
      | exc e => rw [hq] at h; cases h
      | bad => rw [hq] at h; cases h
    · cases h
  | exc e => rw [hm] at h; cases h
  | bad => rw [hm] at h; cases h
theorem SF.comp {it : EI} {own : List Nat} {put : Put} {te : TE} (h : SF X C a te (eComp it own put mt me)) : SE X C a te (eComp it own put mt me) := ⟨h.pe, EvF.e comp_lst h.ev⟩
variable {st : Stmt} {rest : List Stmt} {t u : TS} {m n : ST} {te : TE} {me : EX}
theorem ss_nil : SSs X C [] tNext sNext := ⟨pss_nil, es_next⟩
theorem ss_one (h : SSt X C st t m) : SSs X C [st] t m := ⟨pss_one h.ps, h.ev⟩
theorem ss_cons (h : SSt X C st t m) (r : SSs X C rest u n) : SSs X C (st :: rest) (tSeq t u) (sSeq m n) := ⟨pss_cons h.ps r.ps, es_seq h.ev r.ev⟩
/-- ahead of these: the slot's list stays from here on; slots forgotten -/
theorem ss_freeze (i : Nat) (r : SSs X C rest u n) : SSs X C rest u (sSeq (sFreeze i) n) := ⟨r.ps, es_freeze r.ev⟩
theorem ss_expr (ha : SE X C a ta ma) (hs : swapsWith a none pos.line X.env = pure false := by rfl) : SSt X C (.Expr a pos) (tDrop ta) (sDrop ma) := ⟨ps_expr ha.pe hs, es_drop ha.ev⟩
theorem ss_ret (ha : SE X C a ta ma) : SSt X C (.Return (some a) pos) (tRet ta) (sRet ma) := ⟨ps_ret ha.pe, es_ret ha.ev⟩
theorem ss_if {as bs : List Stmt} (hc : SB X C c tt mt) (ha : SSs X C as t m) (hb : SSs X C bs u n) : SSt X C (.If c as bs pos) (tIfS tt t u) (sIf mt m n) := ⟨ps_if hc.pe ha.ps hb.ps, es_if hc.ev ha.ev hb.ev⟩
theorem ss_while {as : List Stmt} (k : Nat) (F : Fr X C) (hc : SB X C c tt mt) (ha : SSs X C as t m) : SSt X C (.While c as [] pos) (tWhile tt t) (sWhile k mt m) := ⟨ps_while F.ow hc.pe ha.ps, es_while hc.ev ha.ev⟩
theorem ss_for {tg iter : Expr} {wi : TI} {it : EI} {g : TG} {put : Put} {is : List Nat} {as : List Stmt} (F : Fr X C) (hi : SI X C tg iter wi it) (hp : STg X tg g put is) (ha : SSs X C as t m)
    (hs : ∀ x, foldedSetIterable iter X.env x = pure x := by intro _; rfl) : SSt X C (.For tg iter as [] pos) (tFor wi g t) (sFor it put m) := ⟨ps_for F.ow F.ca hi.pi hp.pe ha.ps hs, es_for hi.ev hp.ev ha.ev⟩
/-- name = e -/
theorem ss_asg (i : Nat) {x : Str} (ps : PE X a ta) (ev : EvS X.K C (tAsg ta (gName i)) m) (hs : swapsWith a (some (.Name x p)) pos.line X.env = pure false := by rfl) (hN : X.N.Nodup := by assumption) (hi : X.N[i]? = some x := by rfl) (hx : Loc X.env.scope x := by first | exact .inl rfl | exact .inr rfl)
    (hf : X.fn x = true ∨ X.env.scope.names.lookup x = some .local := by first | exact .inr rfl | exact .inl rfl) : SSt X C (.Assign [.Name x p] a pos) (tAsg ta (gName i)) m := ⟨ps_set hN hi hx ps hs hf, ev⟩
theorem ss_set (i : Nat) {x : Str} (ha : SE X C a ta ma) (hs : swapsWith a (some (.Name x p)) pos.line X.env = pure false := by rfl) (hN : X.N.Nodup := by assumption) (hi : X.N[i]? = some x := by rfl) (hx : Loc X.env.scope x := by first | exact .inl rfl | exact .inr rfl)
    (hf : X.fn x = true ∨ X.env.scope.names.lookup x = some .local := by first | exact .inr rfl | exact .inl rfl) : SSt X C (.Assign [.Name x p] a pos) (tAsg ta (gName i)) (sSet i ma) := ss_asg i ha.pe (es_set ha.ev) hs hN hi hx hf
theorem ss_setN (i : Nat) {x : Str} (ha : SE X C a ta ma) (hs : swapsWith a (some (.Name x p)) pos.line X.env = pure false := by rfl) (hN : X.N.Nodup := by assumption) (hi : X.N[i]? = some x := by rfl) (hx : Loc X.env.scope x := by first | exact .inl rfl | exact .inr rfl)
    (hf : X.fn x = true ∨ X.env.scope.names.lookup x = some .local := by first | exact .inr rfl | exact .inl rfl) : SSt X C (.Assign [.Name x p] a pos) (tAsg ta (gName i)) (sSetN i ma) := ss_asg i ha.pe (es_setN ha.ev) hs hN hi hx hf
theorem ss_own (i : Nat) {x : Str} (ha : SF X C a ta ma) (hs : swapsWith a (some (.Name x p)) pos.line X.env = pure false := by rfl) (hN : X.N.Nodup := by assumption) (hi : X.N[i]? = some x := by rfl) (hx : Loc X.env.scope x := by first | exact .inl rfl | exact .inr rfl)
    (hf : X.fn x = true ∨ X.env.scope.names.lookup x = some .local := by first | exact .inr rfl | exact .inl rfl) : SSt X C (.Assign [.Name x p] a pos) (tAsg ta (gName i)) (sOwn i ma) := ss_asg i ha.pe (es_own ha.ev) hs hN hi hx hf
/-- a, b = e -/
theorem ss_put {tg : Expr} {g : TG} {put : Put} {is : List Nat} (hp : STg X tg g put is) (hnx : ∀ x env, NX (put x env)) (ha : SE X C a ta ma) (hs : swapsWithSole [tg] a pos.line X.env = pure false := by rfl) (hw : swappedStores [tg] a X.env = pure none := by rfl)
    (h1 : (assignEach [tg] X.env).map (·.2) = [assign tg X.env] := by rfl) : SSt X C (.Assign [tg] a pos) (tAsg ta g) (sPut put ma) := ⟨ps_asg ha.pe hp.pe hs hw h1, es_put hp.ev hnx ha.ev⟩
theorem nx_pName {i : Nat} (x : Val) (env : Env) : NX (pName i x env) := by unfold pName; exact nx_ite nx_ok nx_bad
theorem nx_putAll : ∀ {is : List Nat} (xs : List Val) (env : Env), NX (putAll is xs env)
  | [], [], _ => nx_ok
  | [], _ :: _, _ => nx_bad
  | _ :: _, [], _ => nx_bad
  | i :: is, x :: xs, env => nx_bind (nx_pName x env) fun e => nx_putAll xs e
theorem nx_pTup {is : List Nat} (x : Val) (env : Env) : NX (pTup is x env) := by
  unfold pTup
  split
  · exact nx_putAll _ _
  · exact nx_bad
/-- x[b] = a -/
theorem ss_item (i : Nat) {x : Str} {p2 : Pos} (ha : SE X C a ta ma) (hb : SE X C b tb mb) (hN : X.N[i]? = some x := by rfl) (hv : Vis X.env.scope x := by first | exact Or.inl rfl | exact Or.inr (Or.inl rfl) | exact Or.inr (Or.inr rfl)) (hd : (x == ("__debug__" : Str)) = false := by decide)
    (hcd : (x == ("__classdict__" : Str)) = false := by decide) (hsb : ∀ v, assign (.Subscript (.Name x p) b p2) X.env v = (do
      let ov ← holding [v] (eval (.Name x p) X.env)
      let iv ← holding [v, ov] (eval b X.env)
      standAt p2
      holding [v, ov, iv] (setItem ov iv v)
      release [v, ov, iv] []) := by intro _; rfl)
    (hs : swapsWithSole [.Subscript (.Name x p) b p2] a pos.line X.env = pure false := by rfl) (hw : swappedStores [.Subscript (.Name x p) b p2] a X.env = pure none := by rfl)
    (h1 : (assignEach [.Subscript (.Name x p) b p2] X.env).map (·.2) = [assign (.Subscript (.Name x p) b p2) X.env] := by rfl) : SSt X C (.Assign [.Subscript (.Name x p) b p2] a pos) (tAsg ta (gSub (tVar i) tb rSetL)) (sOn i (sItem i mb ma)) :=
  ⟨ps_asg ha.pe (pg_sub (pv i hN hv hd hcd) hb.pe set_list hsb) hs hw h1, es_item ha.ev hb.ev⟩
/-- x.append(a) -/
theorem pe_app (i : Nat) {x : Str} {pa : Pos} (ha : SE X C a ta ma) (hN : X.N[i]? = some x := by rfl) (hv : Vis X.env.scope x := by first | exact Or.inl rfl | exact Or.inr (Or.inl rfl) | exact Or.inr (Or.inr rfl)) (hd : (x == ("__debug__" : Str)) = false := by decide) (hcd : (x == ("__classdict__" : Str)) = false := by decide)
    (hbase : attributeBase (.Name x p) "append" X.env (eval (.Name x p) X.env) = eval (.Name x p) X.env := by rfl)
    (hfew : ((backTo pos (starEach [a] X.env)).all (fun x => !x.1) && (backToKw pos (keywordEach [] X.env)).all (fun x => x.1.isSome)
      && decide ([a].length + ([] : List Keyword).length + (if ([] : List Keyword).isEmpty then 0 else 1) < 30)) = true := by rfl)
    (hline : (pa.endLine == pos.line) = true := by rfl) (hs : starEach [a] X.env = (false, eval a X.env) :: starEach [] X.env := by rfl) (hplain : (backTo pos (starEach [] X.env)).any (·.1) = false := by rfl) :
    PE X (.Call (.Attribute (.Name x p) "append" pa) [a] [] pos) (tBM X.K "list" rAppend (tVar i) (tCons ta tNil)) :=
  pe_bm PySem.F.plainAttrs_list PySem.F.slot_list_append PySem.F.type_list_append mt_append (pv i hN hv hd hcd) (pa_cons ha.pe pa_nil hs) hbase hfew hline hs hplain
theorem ss_app (i : Nat) {x : Str} {pa pos2 : Pos} (ha : SE X C a ta ma) (hN : X.N[i]? = some x := by rfl) (hv : Vis X.env.scope x := by first | exact Or.inl rfl | exact Or.inr (Or.inl rfl) | exact Or.inr (Or.inr rfl)) (hd : (x == ("__debug__" : Str)) = false := by decide) (hcd : (x == ("__classdict__" : Str)) = false := by decide)
    (hbase : attributeBase (.Name x p) "append" X.env (eval (.Name x p) X.env) = eval (.Name x p) X.env := by rfl)
    (hfew : ((backTo pos (starEach [a] X.env)).all (fun x => !x.1) && (backToKw pos (keywordEach [] X.env)).all (fun x => x.1.isSome)
      && decide ([a].length + ([] : List Keyword).length + (if ([] : List Keyword).isEmpty then 0 else 1) < 30)) = true := by rfl)
    (hline : (pa.endLine == pos.line) = true := by rfl) (hs : starEach [a] X.env = (false, eval a X.env) :: starEach [] X.env := by rfl) (hplain : (backTo pos (starEach [] X.env)).any (·.1) = false := by rfl)
    (hsw : swapsWith (.Call (.Attribute (.Name x p) "append" pa) [a] [] pos) none pos2.line X.env = pure false := by rfl) : SSt X C (.Expr (.Call (.Attribute (.Name x p) "append" pa) [a] [] pos) pos2) (tDrop (tBM X.K "list" rAppend (tVar i) (tCons ta tNil))) (sAppend i ma) :=
  ⟨ps_expr (pe_app i ha hN hv hd hcd hbase hfew hline hs hplain) hsw, es_append ha.ev⟩
theorem ss_appN (i : Nat) {x : Str} {pa pos2 : Pos} (ha : SE X C a ta ma) (hN : X.N[i]? = some x := by rfl) (hv : Vis X.env.scope x := by first | exact Or.inl rfl | exact Or.inr (Or.inl rfl) | exact Or.inr (Or.inr rfl)) (hd : (x == ("__debug__" : Str)) = false := by decide) (hcd : (x == ("__classdict__" : Str)) = false := by decide)
    (hbase : attributeBase (.Name x p) "append" X.env (eval (.Name x p) X.env) = eval (.Name x p) X.env := by rfl)
    (hfew : ((backTo pos (starEach [a] X.env)).all (fun x => !x.1) && (backToKw pos (keywordEach [] X.env)).all (fun x => x.1.isSome)
      && decide ([a].length + ([] : List Keyword).length + (if ([] : List Keyword).isEmpty then 0 else 1) < 30)) = true := by rfl)
    (hline : (pa.endLine == pos.line) = true := by rfl) (hs : starEach [a] X.env = (false, eval a X.env) :: starEach [] X.env := by rfl) (hplain : (backTo pos (starEach [] X.env)).any (·.1) = false := by rfl)
    (hsw : swapsWith (.Call (.Attribute (.Name x p) "append" pa) [a] [] pos) none pos2.line X.env = pure false := by rfl) : SSt X C (.Expr (.Call (.Attribute (.Name x p) "append" pa) [a] [] pos) pos2) (tDrop (tBM X.K "list" rAppend (tVar i) (tCons ta tNil))) (sAppendN i ma) :=
  ⟨ps_expr (pe_app i ha hN hv hd hcd hbase hfew hline hs hplain) hsw, es_appendN ha.ev⟩
end
theorem so_start {K : PySem.W.Frag} {me : V} {N H : Hp} : ∀ {vs : List V} {xs : List Val} {n : Nat}, RVs K N vs xs → SO K me N H (vs.map some ++ List.replicate n none) (xs.map Slot.sh ++ List.replicate n Slot.un) []
  | _, _, 0, .nil => .nil
  | _, _, n + 1, .nil => SO.cons (f := []) (fs := []) (.un none) (so_start (n := n) .nil)
  | _, _, n, .cons h r => SO.cons (f := []) (fs := []) (.sh h) (so_start r)
abbrev FX (P : Program) (w : World) (K : PySem.W.Frag) (mg : Str → Option Value) (base : Heap) (N : List Str) (qual : Str) (scope : Scope) (f : Addr) (cd : Value) (A : Around) (outer : List PySem.Env) (s : Shared) (H : Hp) (E : XK) : Cx := cxOf (L2.CX P w) P w K mg base N qual scope f cd A outer s H E
/-- a def: its body's steps, whatever is wanted of an exception -/
def Body (P : Program) (w : World) (K : PySem.W.Frag) (mg : Str → Option Value) (base : Heap) (XR : XRel) (j : Nat) (N : List Str) (qual : Str) (scope : Scope) (body : List Stmt) (m : ST) : Prop :=
  ∀ (f : Addr) (cd : Value) (A : Around) (outer : List PySem.Env) (s : Shared) (H : Hp) (E : XK) (W : WX), let X := FX P w K mg base N qual scope f cd A outer s H E
    Takes X W → Fr X ⟨XR, some W⟩ → Room j X.A → ∃ t, SSs X ⟨XR, some W⟩ body t m
theorem defn_ne {k n : Nat} {m : ST} {xs : List Val} (h : defn k n m xs ≠ .bad) : xs.length = k := by
  unfold defn at h
  split at h
  · assumption
  · exact absurd rfl h
section
variable {P : Program} {w : World} {K : PySem.W.Frag} {mg : Str → Option Value} {base : Heap} {XR : XRel}
theorem fn_ok {x qual : Str} {params : Arguments} {body : List Stmt} {scope : Scope} {dvs : List V} {kws : List (Str × V)} {f : Addr} {fd : FuncData} {N ps : List Str} {j k n : Nat} {m : ST} (F : FunD K x qual params body scope dvs kws f fd) (S : FnScope N ps scope)
    (hk : ps.length = k) (hn : N.length = n) (hb : Body P w K mg base XR j N qual scope body m) : FnOk P w K mg base (L2.CX P w) (j + 1) f fd ps (spF K XR k (defn k n m)) := by
  refine F.ok S (fun vs H Q E h => ?_) (fun cdv A outer s H vs Q E hr h => ?_)
  · obtain ⟨N0, xs, _, r, hl, _⟩ := h
    rw [r.length, hl, hk]
  · have tk : Takes (FX P w K mg base N qual scope f cdv A outer s H E) (fun cls d _ H => E cls d H) := takes_of rfl rfl rfl rfl
    obtain ⟨t, h1, h2⟩ := hb f cdv A outer s H E _ tk ⟨units65 hr, rfl, Lets.of tk, passes_of rfl⟩ hr
    refine ⟨t, h1, ?_⟩
    obtain ⟨N0, xs, e, r, hl, q⟩ := h
    have hst : SO K .non N0 H (L2.start N vs) (startE n xs) [] := by
      unfold L2.start startE
      rw [hn, r.length]
      exact so_start r
    refine h2 ⟨N0, H, fun _ => none, .non⟩ N0 H _ _ [] ⟨Gr.refl e, (fun a o q => nomatch q), (fun a ha => by cases ha), List.nodup_nil, hst⟩ _ ?_
    unfold defn at q
    rw [if_pos hl] at q
    cases hm : m (startE n xs) with
    | next e => rw [hm] at q; exact fun M H' σ fs S' => q M H' S'.g _ .non
    | ret x e => rw [hm] at q; exact fun M' N' H' v σ fs _ _ _ g rv _ => q N' H' g v rv
    | exc z e =>
      rw [hm] at q
      exact ⟨_, rfl, fun cls d M H' σ fs S' hx => q cls d M H' S'.g hx⟩
    | brk e => rw [hm] at q; exact q.elim
    | cont e => rw [hm] at q; exact q.elim
    | bad => rw [hm] at q; exact q.elim
theorem cal_of {x qual : Str} {params : Arguments} {body : List Stmt} {scope : Scope} {f : Addr} {fd : FuncData} {N ps : List Str} {j k n : Nat} {m : ST} (F : FunD K x qual params body scope [] [] f fd) (gm : mg x = some (.ref f)) (S : FnScope N ps scope)
    (hb : ∀ (kV doc pm : Value) (an : Option Addr) (cdv ct : Value) (us : List Value), us.length = ps.length → bindArgs (PySem.W.fnOf x qual params body scope .none kV doc pm an cdv ct) ⟨us, []⟩ = pure (ps.zip us))
    (hk : ps.length = k) (hn : N.length = n) (h : Body P w K mg base XR j N qual scope body m) : Cal P w K mg base XR x (j + 1) k (defn k n m) :=
  ⟨⟨f, fd, ps, fn_ok F S hk hn h, gm, F.kp, F.bindsN hb⟩, fun _ => defn_ne⟩
end
end Vm
namespace Vm
open PySem L2 PyProof.Rows
variable [TabsOf]
def spLaw (sp : Sp) : Sp := fun vs H Q E => sp vs H Q E ∧ E = fun _ _ _ => False
theorem FnOk.to0 {P : Program} {w : World} {K : PySem.W.Frag} {mg : Str → Option Value} {base : Heap} {k : Nat} {f : Addr} {fd : FuncData} {ps : List Str} {sp : Sp} (F : FnOk P w K mg base (L2.CX P w) k f fd ps sp) : FnOk P w K mg base CX0 k f fd ps (spLaw sp) :=
  ⟨fun vs H Q E h => F.len vs H Q E h.1, fun A outer s H args us vs Q E hr he hb hv h => by
    obtain ⟨h1, rfl⟩ := h
    refine codeAny_mono (F.run A outer s H args us vs Q _ hr he hb hv h1) fun r s' hq => ?_
    cases r with
    | error e =>
      obtain ⟨_, _, _, _, _, _, _, _, _, _, _, _, z⟩ := hq
      exact z.elim
    | ok fl => cases fl <;> exact hq⟩
/-- all but the tables -/
def noT (H : Hp) : Hp := fun b => match H b with
  | some (.tbl _) => Option.none
  | o => o
theorem noT_eq {H : Hp} {b : Addr} {o : HO} (h : noT H b = some o) : H b = some o ∧ ntb o = true := by
  unfold noT at h
  split at h
  · cases h
  · rename_i hn
    refine ⟨h, ?_⟩
    cases o <;> first | rfl | exact absurd h (hn _)
theorem noT_at {H : Hp} {b : Addr} {o : HO} (h : H b = some o) (ho : ntb o = true := by rfl) : noT H b = some o := by
  unfold noT
  rw [h]
  cases o <;> first | rfl | cases ho
theorem noT_inn {H : Hp} (hT : LamX.Tabs TabsOf.T H) : Inn (noT H) H := ⟨fun b o h => (noT_eq h).1, hT, fun b o h => (noT_eq h).2⟩
theorem noT_seq {K : PySem.W.Frag} {H : Hp} {a : Addr} {xs : List V} (h : SqL K H a xs) : SqL K (noT H) a xs := by
  rcases h with (h | ⟨o, h⟩) | h
  · exact .inl (.inl (noT_at h))
  · exact .inl (.inr ⟨o, noT_at h⟩)
  · exact .inr h
theorem law_sp {K : PySem.W.Frag} {XR : XRel} {f : Fn} {ns : List Int} (pure : f [.lst (ns.map Val.int)] = .ret (.bl true)) {H : Hp} {a : Addr} (hS : SqL K H a (ns.map V.int)) (hT : LamX.Tabs TabsOf.T H := by exact fun _ h => nomatch h) : spLaw (spF K XR 1 f) [.ref a] H (fun v _ => v = .bl true) fun _ _ _ => False := by
  refine ⟨⟨noT H, [.lst (ns.map Val.int)], noT_inn hT, .cons (.lst (noT_seq hS) ?_) .nil, rfl, ?_⟩, rfl⟩
  · induction ns with
    | nil => exact .nil
    | cons n ns ih =>
      exact .cons (.int n) (by
        clear ih pure hS
        induction ns with
        | nil => exact .nil
        | cons m ms ih => exact .cons (.int m) ih)
  · rw [pure]
    intro N' H' g v rv
    cases rv
    rfl
end Vm
namespace Vm
open PySem L2 PyProof.Rows
variable [TabsOf]
/-- the Value stands for the Val in the written part -/
def vOf : Value → V
  | .bool b => .bl b
  | .int i _ => .int i
  | .str x _ => .str x
  | .ref a => .ref a
  | _ => .non
mutual
def valB (K : PySem.W.Frag) : Val → Value → Bool
  | .non, .none => true
  | .bl b, .bool c => b == c
  | .int i, .int j _ => decide (i = j)
  | .str x, .str y _ => decide (x = y)
  | .tup xs, .ref a => (match K.lookup a with
    | some ⟨.type c, _, .seq its _, _⟩ => decide (c = "tuple") && (decide (its.size ≤ sizeLine) && valsB K xs its.toList)
    | _ => false)
  | .lst xs, .ref a => (match K.lookup a with
    | some ⟨.type c, none, .seq its _, _⟩ => decide (c = "list") && (decide (its.size ≤ sizeLine) && valsB K xs its.toList)
    | _ => false)
  | _, _ => false
def valsB (K : PySem.W.Frag) : List Val → List Value → Bool
  | [], [] => true
  | x :: xs, u :: us => valB K x u && valsB K xs us
  | _, _ => false
end
mutual
theorem valB_ok {K : PySem.W.Frag} : ∀ (x : Val) (u : Value), valB K x u = true → RelV (vOf u) u ∧ ∀ N, RV K N (vOf u) x
  | .non, .none, _ => ⟨rfl, fun _ => .non⟩
  | .bl b, .bool c, h => by
    have h : (b == c) = true := h
    rw [beq_iff_eq] at h
    subst h
    exact ⟨rfl, fun _ => .bl b⟩
  | .int i, .int j t, h => by
    have h : i = j := of_decide_eq_true h
    subst h
    exact ⟨⟨t, rfl⟩, fun _ => .int i⟩
  | .str x, .str y t, h => by
    have h : x = y := of_decide_eq_true h
    subst h
    exact ⟨⟨t, rfl⟩, fun _ => .str x⟩
  | .tup xs, .ref a, h => by
    have h : (match K.lookup a with
      | some ⟨.type c, _, .seq its _, _⟩ => decide (c = "tuple") && (decide (its.size ≤ sizeLine) && valsB K xs its.toList)
      | _ => false) = true := h
    split at h
    · rename_i c od its n sl q
      rw [Bool.and_eq_true, Bool.and_eq_true] at h
      obtain ⟨h1, h2, h3⟩ := h
      obtain ⟨vs, hv, hr⟩ := valsB_ok xs its.toList h3
      refine ⟨rfl, fun N => .tup (vs := vs) (.inr ⟨_, its, n, q, congrArg Value.type (of_decide_eq_true h1), rfl, of_decide_eq_true h2, hv⟩) (hr N)⟩
    · cases h
  | .lst xs, .ref a, h => by
    have h : (match K.lookup a with
      | some ⟨.type c, none, .seq its _, _⟩ => decide (c = "list") && (decide (its.size ≤ sizeLine) && valsB K xs its.toList)
      | _ => false) = true := h
    split at h
    · rename_i c its n sl q
      rw [Bool.and_eq_true, Bool.and_eq_true] at h
      obtain ⟨h1, h2, h3⟩ := h
      obtain ⟨vs, hv, hr⟩ := valsB_ok xs its.toList h3
      refine ⟨rfl, fun N => .lst (vs := vs) (.inr ⟨_, its, n, q, congrArg Value.type (of_decide_eq_true h1), rfl, rfl, of_decide_eq_true h2, hv⟩) (hr N)⟩
    · cases h
  | .dct _, u, h => by cases u <;> cases h
  | .non, .bool _, h => by cases h
  | .non, .int _ _, h => by cases h
  | .non, .str _ _, h => by cases h
  | .non, .ref _, h => by cases h
  | .bl _, .none, h => by cases h
  | .bl _, .int _ _, h => by cases h
  | .bl _, .str _ _, h => by cases h
  | .bl _, .ref _, h => by cases h
  | .int _, .none, h => by cases h
  | .int _, .bool _, h => by cases h
  | .int _, .str _ _, h => by cases h
  | .int _, .ref _, h => by cases h
  | .str _, .none, h => by cases h
  | .str _, .bool _, h => by cases h
  | .str _, .int _ _, h => by cases h
  | .str _, .ref _, h => by cases h
  | .tup _, .none, h => by cases h
  | .lst _, .none, h => by cases h
theorem valsB_ok {K : PySem.W.Frag} : ∀ (xs : List Val) (us : List Value), valsB K xs us = true → ∃ vs, Vals vs us ∧ ∀ N, RVs K N vs xs
  | [], [], _ => ⟨[], .nil, fun _ => .nil⟩
  | [], _ :: _, h => by cases h
  | _ :: _, [], h => by cases h
  | x :: xs, u :: us, h => by
    have h : (valB K x u && valsB K xs us) = true := h
    rw [Bool.and_eq_true] at h
    obtain ⟨h1, h2⟩ := valB_ok x u h.1
    obtain ⟨vs, h3, h4⟩ := valsB_ok xs us h.2
    exact ⟨vOf u :: vs, .cons h1 h3, fun N => .cons (h2 N) (h4 N)⟩
end
/-- a name of the module -/
def gU (K : PySem.W.Frag) (x : Str) : Value := match PySem.W.nsIn K mainGlobals x with
  | some (some u) => u
  | _ => .none
def gB (K : PySem.W.Frag) (x : Str) (z : Val) : Bool := match PySem.W.nsIn K mainGlobals x with
  | some (some u) => valB K z u
  | _ => false
def GV (K : PySem.W.Frag) (mg : Str → Option Value) (x : Str) (z : Val) : Prop := mg x = some (gU K x) ∧ RelV (vOf (gU K x)) (gU K x) ∧ ∀ N, RV K N (vOf (gU K x)) z
theorem gB_ok {K : PySem.W.Frag} {h : Heap} {mg : Str → Option Value} (X : K.In h) (G : h.Ns mainGlobals mg) {x : Str} {z : Val} (c : gB K x z = true) : GV K mg x z := by
  unfold gB at c
  cases q : PySem.W.nsIn K mainGlobals x with
  | none => rw [q] at c; cases c
  | some r =>
    rw [q] at c
    cases r with
    | none => cases c
    | some u =>
      have e : gU K x = u := by unfold gU; rw [q]
      unfold GV
      rw [e]
      obtain ⟨h1, h2⟩ := valB_ok z u c
      exact ⟨PySem.W.mg_of X G q, h1, h2⟩
def entB (K : PySem.W.Frag) : List (Str × Val) → List DictEntry → Bool
  | [], [] => true
  | (k, z) :: t, e :: es => (match e.key with
    | .str x _ => decide (x = k)
    | _ => false) && (valB K z e.val && entB K t es)
  | _, _ => false
def dicB (K : PySem.W.Frag) (a : Addr) (tab : List (Str × Val)) : Bool := match K.lookup a with
  | some ⟨_, _, .dict es _, _⟩ => entB K tab es.toList
  | _ => false
structure KD (K : PySem.W.Frag) (w : World) (a : Addr) (tab : List (Str × Val)) : Prop where
  d : ∃ es n, KDict K w a es n
  get : ∀ z, match tab.lookup z with
    | some x => ∃ u, PySem.W.nsIn K a z = some (some u) ∧ valB K x u = true
    | none => PySem.W.nsIn K a z = some none
theorem entB_ok {K : PySem.W.Frag} : ∀ {tab : List (Str × Val)} {es : List DictEntry}, entB K tab es = true → (es.any (·.refKey) = false) ∧ ∀ z, match tab.lookup z with
    | some x => ∃ e, es.find? (·.key.isStr z) = some e ∧ valB K x e.val = true
    | none => es.find? (·.key.isStr z) = none
  | [], [], _ => ⟨rfl, fun z => rfl⟩
  | [], _ :: _, h => by cases h
  | _ :: _, [], h => by cases h
  | (k, x) :: t, e :: es, h => by
    have h : ((match e.key with
      | .str x _ => decide (x = k)
      | _ => false) && (valB K x e.val && entB K t es)) = true := h
    rw [Bool.and_eq_true, Bool.and_eq_true] at h
    obtain ⟨h1, h2, h3⟩ := h
    obtain ⟨q1, q2⟩ := entB_ok h3
    split at h1
    · rename_i y ty hy
      have hk : y = k := of_decide_eq_true h1
      subst hk
      have hr : e.refKey = false := by unfold DictEntry.refKey; rw [hy]
      refine ⟨by rw [List.any_cons, hr, q1]; rfl, fun z => ?_⟩
      have hs : e.key.isStr z = decide (y = z) := by
        rw [hy]
        show (y == z) = decide (y = z)
        rw [Bool.eq_iff_iff]; simp
      rw [List.lookup_cons, List.find?_cons, hs]
      by_cases hz : y = z
      · subst hz
        simp only [beq_self_eq_true, decide_true]
        exact ⟨e, rfl, h2⟩
      · have hz2 : (z == y) = false := by rw [beq_eq_false_iff_ne]; exact fun q => hz q.symm
        simp only [hz2, hz, decide_false]
        exact q2 z
    · cases h1
theorem kd_of {K : PySem.W.Frag} {w : World} {a : Addr} {tab : List (Str × Val)} (h : ∃ es n, KDict K w a es n) (c : dicB K a tab = true) : KD K w a tab := by
  obtain ⟨es, n, kd⟩ := h
  refine ⟨⟨es, n, kd⟩, fun z => ?_⟩
  unfold dicB at c
  rw [kd.at_] at c
  obtain ⟨h1, h2⟩ := entB_ok (show entB K tab es.toList = true from c)
  have h2 := h2 z
  unfold PySem.W.nsIn
  rw [kd.at_]
  cases hl : tab.lookup z with
  | none =>
    rw [hl] at h2
    simp only at h2 ⊢
    rw [h2, h1]
    rfl
  | some x =>
    rw [hl] at h2
    obtain ⟨e, he, hv⟩ := h2
    simp only
    rw [he]
    exact ⟨e.val, rfl, hv⟩
theorem nx_kget {tab : List (Str × Val)} (x : Val) : NX (vKGet tab x) := by unfold vKGet; split <;> first | exact nx_ofOpt | exact nx_bad
theorem nx_kin {tab : List (Str × Val)} (x : Val) : NX (vKIn tab x) := by unfold vKIn; split <;> first | exact nx_ok | exact nx_bad
def rKIn (K : PySem.W.Frag) (w : World) (b : Bool) : R2 := fun x y H Q => ∃ p z es n, y = .ref p ∧ x = .str z ∧ KDict K w p es n ∧ ((∃ u, PySem.W.nsIn K p z = some (some u) ∧ Q (.bl b) H) ∨ (PySem.W.nsIn K p z = some none ∧ Q (.bl (!b)) H))
theorem op_kin {X : Cx} : OpR X (compareOp .In) (rKIn X.K X.w true) := by
  intro pins s σ H x y v u Q I rx ry h
  obtain ⟨p, z, es, n, rfl, rfl, kd, h⟩ := h
  obtain rfl : u = Value.ref p := ry
  obtain ⟨t, rfl⟩ := rx
  have hm' := PySem.W.mapOf_K (prog := X.prog) (w := X.w) I.kIn kd.at_ kd.lit
  refine wpAny_in_of (strKind_is X.prog X.w z t) kd.low hm' ?_
  rcases h with ⟨u0, e, q⟩ | ⟨e, q⟩
  · rw [PySem.W.find_K kd.at_ e]
    exact ⟨.bl true, H, I.tok _, rfl, q⟩
  · rw [PySem.W.find_K kd.at_ e]
    exact ⟨.bl false, H, I.tok _, rfl, q⟩
section
variable {K : PySem.W.Frag} {w : World} {C : Cn} {a : Addr} {tab : List (Str × Val)} {tb : TE} {mb : EX}
theorem ev_kget (kd : KD K w a tab) (hb : EvE K C tb mb) : EvE K C (tOp (rIxD K w) (tC (.ref a)) tb) (e1 (vKGet tab) mb) := fun N H σ env e s Q h => by
  refine hb N H σ env e s _ (PostR.imp (PostR.bind h) fun x N1 H1 g1 h1 v rv => ?_)
  cases rv with
  | str z =>
    obtain ⟨y, hy, k⟩ := h1.val (nx_kget _)
    have hy : Res.ofOpt (tab.lookup z) = .ok y := hy
    have g := kd.get z
    cases hl : tab.lookup z with
    | none => rw [hl] at hy; cases hy
    | some x =>
      rw [hl] at hy g
      cases hy
      obtain ⟨u, hu, hv⟩ := g
      obtain ⟨r1, r2⟩ := valB_ok _ u hv
      obtain ⟨es, n, kd'⟩ := kd.d
      exact ⟨a, z, vOf u, rfl, rfl, ⟨es, n, u, kd'.at_, kd'.lit, hu, r1⟩, k N1 H1 (Gr.refl g1.nh) _ (r2 N1)⟩
  | _ => exact h1.elim
theorem ev_kin (kd : KD K w a tab) (hb : EvE K C tb mb) : EvE K C (tOp (rKIn K w true) tb (tC (.ref a))) (e1 (vKIn tab) mb) := fun N H σ env e s Q h => by
  refine hb N H σ env e s _ (PostR.imp (PostR.bind h) fun x N1 H1 g1 h1 v rv => ?_)
  cases rv with
  | str z =>
    obtain ⟨y, hy, k⟩ := h1.val (nx_kin _)
    have hy : Res.ok (Val.bl (tab.lookup z).isSome) = .ok y := hy
    have g := kd.get z
    obtain ⟨es, n, kd'⟩ := kd.d
    refine ⟨a, z, es, n, rfl, rfl, kd', ?_⟩
    cases hl : tab.lookup z with
    | none =>
      rw [hl] at hy g
      cases hy
      exact .inr ⟨g, k N1 H1 (Gr.refl g1.nh) _ (.bl _)⟩
    | some x =>
      rw [hl] at hy g
      cases hy
      obtain ⟨u, hu, hv⟩ := g
      exact .inl ⟨u, hu, k N1 H1 (Gr.refl g1.nh) _ (.bl _)⟩
  | _ => exact h1.elim
end
section
variable {X : Cx} {C : Cn} {a : Expr} {ta : TE} {ma : EX} {pos p : Pos} {tab : List (Str × Val)} {x : Str}
/-- a constant of the module -/
theorem se_gv {z : Val} (g : GV X.K X.mg x z) (hg : Gl X x := by rfl) (hd : (x == ("__debug__" : Str)) = false := by decide) : SE X C (.Name x pos) (tC (vOf (gU X.K x))) (eC z) := ⟨pe_glob hg g.1 g.2.1 hd, ev_c g.2.2⟩
/-- D[a], a in D, a not in D of a dict D of the module -/
theorem se_kget (hm : X.mg x = some (.ref (He.ga X.K x))) (kd : KD X.K X.w (He.ga X.K x) tab) (ha : SE X C a ta ma) (hg : Gl X x := by rfl) (hd : (x == ("__debug__" : Str)) = false := by decide) (hs : PlainIx a := by intro _ _; rfl) :
    SE X C (.Subscript (.Name x p) a pos) (tOp (rIxD X.K X.w) (tC (.ref (He.ga X.K x))) ta) (e1 (vKGet tab) ma) := ⟨pe_ix ix_kdict (pe_glob hg hm rfl hd) ha.pe hs, ev_kget kd ha.ev⟩
theorem sb_kin (hm : X.mg x = some (.ref (He.ga X.K x))) (kd : KD X.K X.w (He.ga X.K x) tab) (ha : SE X C a ta ma) (hg : Gl X x := by rfl) (hd : (x == ("__debug__" : Str)) = false := by decide) (hmk : behindInMarks .In (.Name x p) = false := by rfl) :
    SB X C (.Compare a [.In] [.Name x p] pos) (tTest (tOp (rKIn X.K X.w true) ta (tC (.ref (He.ga X.K x))))) (bVal (e1 (vKIn tab) ma)) := ⟨pt_cmpR op_kin ha.pe (pe_glob hg hm rfl hd) hmk, eb_test (ev_kin kd ha.ev)⟩
end
end Vm
namespace Vm
open PySem L2 PyProof.Rows
variable [TabsOf]
/-- an exception's class and fields -/
def xr (K : PySem.W.Frag) : XRel := fun H cls d q => cls = .ref (He.ga K q.cls) ∧ ((q.fs = [] ∧ d = none) ∨ (q.fs ≠ [] ∧ ∃ dd, d = some dd ∧ H dd = some (.xd (q.fs.map fun p => (p.1, toV p.2)))))
abbrev CN (K : PySem.W.Frag) : Cn := ⟨xr K, none⟩
structure XC (K : PySem.W.Frag) (mg : Str → Option Value) (x : Str) : Prop where
  g : mg x = some (.ref (He.ga K x))
  e : PySem.W.excIn K (He.ga K x) He.veBase "ValueError.__new__" = true ∧ PySem.W.keepIn K (.ref (He.ga K x)) = true ∧ PySem.W.subIn K (.ref (He.ga K x)) (.type "BaseException") = some true ∧ PySem.W.typeIn K (.ref (He.ga K x)) = some (.type "type")
theorem look_mem {β : Type} {x : Str} {b : β} : ∀ {tab : List (Str × β)}, tab.lookup x = some b → (x, b) ∈ tab
  | [], h => by cases h
  | (y, c) :: r, h => by
    rw [List.lookup_cons] at h
    split at h
    · rename_i e
      cases h
      rw [beq_iff_eq] at e
      subst e
      exact List.mem_cons_self
    · exact List.mem_cons_of_mem _ (look_mem h)
section
variable {K : PySem.W.Frag} {C : Cn} {B : Bs} {D : Ends}
theorem PostF.goneC {W W' : Option WX} {r : Flow} {i : Nat} (h : PostF K ⟨xr K, W⟩ B D (r.gone i)) : PostF K ⟨xr K, W'⟩ B { nx := fun σ' H' => D.nx (σ'.set i none) H', rt := D.rt, bk := fun σ' H' => D.bk (σ'.set i none) H', ct := fun σ' H' => D.ct (σ'.set i none) H' } r := by
  have put2 : ∀ {e : Env} {M H : Hp} {σ : L2.St} {fs : List Addr}, SR K B M H σ e fs → ∃ fs', SR K B M H (σ.set i none) (e.set i .un) fs' ∧ ∀ a ∈ fs', a ∈ fs := by
    intro e M H σ fs S
    by_cases hi : i < e.length
    · exact S.put2 hi (.un none)
    · rw [List.set_eq_of_length_le (by rw [S.sl.len]; omega), List.set_eq_of_length_le (by omega)]
      exact ⟨fs, S, fun _ h => h⟩
  have put : ∀ {e : Env} {M H : Hp} {σ : L2.St} {fs : List Addr}, SR K B M H σ e fs → ∃ fs', SR K B M H (σ.set i none) (e.set i .un) fs' := fun S => let ⟨fs', h, _⟩ := put2 S; ⟨fs', h⟩
  cases r with
  | next e =>
    intro M H σ fs S
    obtain ⟨fs', S'⟩ := put S
    exact h M H _ fs' S'
  | brk e =>
    intro M H σ fs S
    obtain ⟨fs', S'⟩ := put S
    exact h M H _ fs' S'
  | cont e =>
    intro M H σ fs S
    obtain ⟨fs', S'⟩ := put S
    exact h M H _ fs' S'
  | ret x e =>
    intro M N H v σ fs S sb hk g rv hr
    obtain ⟨fs', S', sub⟩ := put2 S
    exact h M N H v _ fs' (by rw [unR_set]; exact S') sb (fun a ha => hk a (sub a ha)) g rv fun z => hr (isR_set e i z)
  | exc q e => exact h.elim
  | bad => exact h.elim
theorem es_tryAs {Wout : WX} {i : Nat} {tb : WX → TS} {ts : Addr → Value → Option Addr → TS} {body : ST} {su : Exn → ST} {tab : List (Str × Bool)} {c : Value}
    (hx : ∀ p ∈ tab, PySem.W.exmOne K (.ref (He.ga K p.1)) c = some p.2) (hb : ∀ W, EvS K ⟨xr K, some W⟩ (tb W) body)
    (hs : ∀ q a cls d B M H σ env fs, SR K B M H σ env fs → σ[i]? = some (some (.ref a)) → xr K H cls d q → ∀ D, PostF K (CN K) B D (su q env) → ts a cls d D σ H) :
    EvS K ⟨xr K, some Wout⟩ (fun D σ H => tb (wAs K c i ts Wout D) D σ H) (sTryAs i tab body su) := fun B M H σ env fs S D h => by
  refine hb (wAs K c i ts Wout D) B M H σ env fs S D ?_
  unfold sTryAs at h
  cases hm : body env with
  | exc q e =>
    rw [hm] at h
    refine ⟨_, rfl, fun cls d M' H' σ' fs' S' hq => ?_⟩
    have h : PostF K ⟨xr K, some Wout⟩ B D (match tab.lookup q.cls with
      | some true => if i < e.length then (su q (e.set i .un)).gone i else .bad
      | some false => .exc q e
      | none => .bad) := h
    cases hl : tab.lookup q.cls with
    | none => rw [hl] at h; exact h.elim
    | some b =>
      rw [hl] at h
      refine ⟨b, ?_, fun hb1 a ha => ?_, fun hb1 => ?_⟩
      · rw [hq.1]; exact hx _ (look_mem hl)
      · subst hb1
        obtain ⟨hi, h⟩ := PostF.ite h
        obtain ⟨fs2, S2⟩ := S'.put hi (.un (some (.ref a)))
        exact hs q a cls d B M' H' _ _ fs2 S2 (by rw [List.getElem?_set_self (by rw [S'.sl.len]; exact hi)]) hq _ (PostF.goneC h)
      · subst hb1
        obtain ⟨w, e1, k⟩ := h
        cases e1
        exact k cls d M' H' σ' fs' S' hq
  | next e => rw [hm] at h; exact h
  | brk e => rw [hm] at h; exact h
  | cont e => rw [hm] at h; exact h
  | ret e => rw [hm] at h; exact h
  | bad => rw [hm] at h; exact h
theorem es_raise {W : WX} {q : Exn} (hq : q.fs = []) : EvS K ⟨xr K, some W⟩ (fun _ σ H => W (.ref (He.ga K q.cls)) none σ H) (sRaise q) := fun B M H σ env fs S D h => by
  obtain ⟨w, e1, k⟩ := h
  cases e1
  exact k _ _ M H σ fs S ⟨rfl, .inl ⟨hq, rfl⟩⟩
end
section
variable {X : Cx} {W : WX} {p p2 pos pos' : Pos}
theorem ss_raise {x m : Str} {j : Nat} (tk : Takes X W) (hc : X.calm = true) (c : XC X.K X.mg x) (hg : Gl X x := by rfl) (hdb : (x == ("__debug__" : Str)) = false := by decide) : SSt X ⟨xr X.K, some W⟩ (.Raise (some (.Call (.Name x p) [.Constant (.str m) j p2] [] pos)) none pos') (fun _ σ H => W (.ref (He.ga X.K x)) none σ H) (sRaise ⟨x, []⟩) :=
  ⟨ps_raise hc tk (pmk_own PySem.F.excBase_ValueError c.e.1 c.g c.e.2.1 (raises_own c.e.2.2.1 c.e.2.2.2) hg hdb), es_raise (q := ⟨x, []⟩) rfl⟩
theorem Fr.tr {W' : WX} {C : Cn} {pn : List (Addr × Obj)} {xe : Value → Shared → Prop} (F : Fr X C) (tk : Takes (X.tr pn xe) W') (pw : PassesOwn (model X.prog X.w) X.A X.env xe) : Fr (X.tr pn xe) ⟨xr X.K, some W'⟩ := ⟨F.hu, F.ca, Lets.of tk, pw⟩
def EvEi (K : PySem.W.Frag) (C : Cn) (i : Nat) (a : Addr) (te : TE) (m : EX) : Prop := ∀ N H σ env, Inn N H → SV K N σ env → σ[i]? = some (some (V.ref a)) → ∀ Q : VK, PostR C σ N H (m env) (fun x N' H' => ∀ v, RV K N' v x → Q v H') → te σ H Q
structure SEi (X : Cx) (C : Cn) (i : Nat) (a : Addr) (e : Expr) (te : TE) (m : EX) : Prop where
  pe : PE X e te
  ev : EvEi X.K C i a te m
structure SSi (X : Cx) (C : Cn) (i : Nat) (a : Addr) (st : List Stmt) (t : TS) (m : ST) : Prop where
  ps : PSs X st t
  ev : ∀ B M H σ env fs, SR X.K B M H σ env fs → σ[i]? = some (some (.ref a)) → ∀ D, PostF X.K C B D (m env) → t D σ H
section
variable {C : Cn} {i : Nat} {a : Addr} {e e1 e2 : Expr} {te te2 : TE} {me me2 : EX} {rest : List Expr}
theorem ei_int (hm : X.mg "int" = none) (ha : SEi X C i a e te me) (hg : Gl X "int" := by rfl) (he : starEach [e] X.env = (false, eval e X.env) :: starEach [] X.env := by rfl) (hpl : (backTo pos (starEach [] X.env)).any (·.1) = false := by rfl) :
    SEi X C i a (.Call (.Name "int" p) [e] [] pos) (tCB rIntC (tCons te tNil)) (eArgs vInt (aCons me aNil)) := ⟨pe_callTy call_intC hg hm PySem.Pv.boot_int (pa_cons ha.pe pa_nil he) (by decide) (by decide) he hpl, fun N H σ env e s hi Q h => by
  have h : PostR C σ N H (((me env).bind fun x => .ok [x]).bind vInt) (fun x N' H' => ∀ v, RV X.K N' v x → Q v H') := h
  refine ha.ev N H σ env e s hi _ (PostR.imp (PostR.bind (by
    have e1 : (((me env).bind fun x => Res.ok [x]).bind vInt) = (me env).bind fun x => vInt [x] := by cases me env <;> rfl
    rw [e1] at h; exact h)) fun x N1 H1 g1 h1 v rv => ?_)
  exact ca_int N1 H1 g1.nh [v] [x] (.cons rv .nil) Q (h1.val (nx_int [x]))⟩
theorem ei_add (ha : SE X C e te me) (hb : SEi X C i a e2 te2 me2) : SEi X C i a (.BinOp e .Add e2 pos) (tOp (rAddV X.K) te te2) (Vm.e2 vAdd me me2) := ⟨pe_op op_addV ha.pe hb.pe, fun N H σ env e s hi Q h => by
  refine ha.ev N H σ env e s _ (PostR.imp (PostR.bind h) fun x N1 H1 g1 h1 v rv => ?_)
  refine hb.ev N1 H1 σ env g1.nh (s.mono g1.nn) hi _ (PostR.imp (PostR.bind h1) fun y N2 H2 g2 h2 w rw' => ?_)
  exact ops_add N2 H2 g2.nh v w x y (rv.mono g2.nn) rw' Q (h2.val (nx_add x y))⟩
/-- a name gets a value without a list -/
theorem si_setN (k : Nat) {x : Str} (ha : SEi X C i a e te me) (hs : swapsWith e (some (.Name x p)) pos.line X.env = pure false := by rfl) (hN : X.N.Nodup := by assumption) (hi : X.N[k]? = some x := by rfl) (hx : Loc X.env.scope x := by first | exact .inl rfl | exact .inr rfl)
    (hf : X.fn x = true ∨ X.env.scope.names.lookup x = some .local := by first | exact .inr rfl | exact .inl rfl) : SSi X C i a [.Assign [.Name x p] e pos] (tAsg te (gName k)) (sSetN k me) := ⟨pss_one (ps_set hN hi hx ha.pe hs hf), fun B M H σ env fs S hi D h => by
  refine ha.ev _ H σ env (full_sub S) S.sv hi _ (post_full S h fun x N' H' _ g S' hx v rv => ?_)
  obtain ⟨⟨hi, hn⟩, hx⟩ := PostF.ite hx
  obtain ⟨fs', S2⟩ := S'.putV (i := k) (RV.strip (S.kindsN g) x rv hn)
  exact hx _ H' _ fs' S2⟩
end
/-- what isinstance asks of the class of an exception -/
def excCB (K : PySem.W.Frag) (x : Str) : Bool :=
  decide (PySem.W.findIn K (.ref (He.ga K x)) "__getattribute__" = some (some (.builtin "BaseException.__getattribute__"))) && (decide (PySem.W.findIn K (.ref (He.ga K x)) "__getattr__" = some none) &&
  (decide (PySem.W.subIn K (.ref (He.ga K x)) (.type "BaseException") = some true) && (PySem.W.hasDictIn K (He.ga K x) && (decide (PySem.W.findIn K (.ref (He.ga K x)) "__class__" = some (some (.builtin "object.__class__"))) &&
  (decide (PySem.W.specialIn K (.builtin "object.__class__") "__get__" = some (some (.builtin "getset_descriptor.__get__"))) && (decide (PySem.W.takesIn K (.builtin "object.__class__") = some true) && decide (PySem.W.mroIn K (He.ga K x) (.type "object") = some true)))))))
theorem excCB_ok {K : PySem.W.Frag} {x : Str} (h : excCB K x = true) : ExcC K (He.ga K x) := by
  unfold excCB at h
  simp only [Bool.and_eq_true, decide_eq_true_eq] at h
  obtain ⟨h1, h2, h3, h4, h5, h6, h7, h8⟩ := h
  exact ⟨h1, h2, h3, h4, h5, h6, h7, h8⟩
/-- the class that isinstance names -/
def clsV (K : PySem.W.Frag) (x : Str) : Value := if x = "ValueError" then .type "ValueError" else .ref (He.ga K x)
/-- the table of isinstance(e, x) -/
structure IsT (K : PySem.W.Frag) (mg : Str → Option Value) (x : Str) (tab : List (Str × Bool)) : Prop where
  g : (x = "ValueError" ∧ mg x = none) ∨ (x ≠ "ValueError" ∧ mg x = some (.ref (He.ga K x)))
  t : ∀ p ∈ tab, ExcC K (He.ga K p.1) ∧ PySem.W.kitOne K (.ref (He.ga K p.1)) (clsV K x) = some p.2
theorem is_ok {K : PySem.W.Frag} {x : Str} {p : Str × Bool} (h : (excCB K p.1 && decide (PySem.W.kitOne K (.ref (He.ga K p.1)) (clsV K x) = some p.2)) = true) : ExcC K (He.ga K p.1) ∧ PySem.W.kitOne K (.ref (He.ga K p.1)) (clsV K x) = some p.2 := by
  rw [Bool.and_eq_true, decide_eq_true_eq] at h
  exact ⟨excCB_ok h.1, h.2⟩
/-- no dict of its own -/
theorem ei_isE {i : Nat} {a : Addr} {oe : Obj} {pn : List (Addr × Obj)} {q : Exn} {n x : Str} {tab : List (Str × Bool)} (T : IsT X.K X.mg x tab) (hz : Zc (.ref (He.ga X.K q.cls)) none oe) (hf : ∃ vs, oe.data = .fields vs) (hm : X.mg "isinstance" = none)
    (hN : X.N[i]? = some n := by rfl) (hv : Vis X.env.scope n := by first | exact Or.inl rfl | exact Or.inr (Or.inl rfl) | exact Or.inr (Or.inr rfl)) (hdn : (n == ("__debug__" : Str)) = false := by decide) (hcd : (n == ("__classdict__" : Str)) = false := by decide)
    (hg : Gl X "isinstance" := by rfl) (hgx : Gl X x := by rfl) (hn : x ≠ "__name__" := by decide) (hd : (x == ("__debug__" : Str)) = false := by decide)
    (he : starEach [.Name n p, .Name x p2] X.env = (false, eval (.Name n p) X.env) :: starEach [.Name x p2] X.env := by rfl) (he2 : starEach [.Name x p2] X.env = (false, eval (.Name x p2) X.env) :: starEach [] X.env := by rfl) (hpl : (backTo pos (starEach [.Name x p2] X.env)).any (·.1) = false := by rfl) :
    SEi (X.suite a ((a, oe) :: pn)) (CN X.K) i a (.Call (.Name "isinstance" pos') [.Name n p, .Name x p2] [] pos) (fun σ H Q => σ[i]? = some (some (.ref a)) ∧ ∃ b, tab.lookup q.cls = some b ∧ Q (.bl b) H) (eIsE tab q) := by
  refine ⟨⟨fun pins s σ H Q I h => ?_⟩, fun N H σ env e s hi Q h => ?_⟩
  · obtain ⟨hi, b, hb, hq⟩ := h
    obtain ⟨h1, h2⟩ := T.t _ (look_mem hb)
    rcases T.g with ⟨hx, hmx⟩ | ⟨hx, hmx⟩
    · refine (pe_callB (X := X.suite a ((a, oe) :: pn)) (call_isE h1 hz hf) hg hm boot_isinstance (pa_cons (pv i hN hv hdn hcd) (pa_cons (pe_bltn (v := .ty "ValueError") (u := .type "ValueError") hgx hmx (by rw [hx]; decide +kernel) rfl hn hd) pa_nil he2) he) (by decide) (by decide) he hpl).run pins s σ H Q I ?_
      refine ⟨.ref a, hi, .ty "ValueError", .type "ValueError", b, rfl, fun u r => r, ?_, hq⟩
      rw [show clsV X.K x = .type "ValueError" from if_pos hx] at h2
      exact h2
    · refine (pe_callB (X := X.suite a ((a, oe) :: pn)) (call_isE h1 hz hf) hg hm boot_isinstance (pa_cons (pv i hN hv hdn hcd) (pa_cons (pe_glob (v := .ref (He.ga X.K x)) hgx hmx rfl hd) pa_nil he2) he) (by decide) (by decide) he hpl).run pins s σ H Q I ?_
      refine ⟨.ref a, hi, .ref (He.ga X.K x), .ref (He.ga X.K x), b, rfl, fun u r => r, ?_, hq⟩
      rw [show clsV X.K x = .ref (He.ga X.K x) from if_neg hx] at h2
      exact h2
  · unfold eIsE at h
    refine ⟨hi, ?_⟩
    cases hl : tab.lookup q.cls with
    | none => rw [hl] at h; exact h.elim
    | some b =>
      rw [hl] at h
      exact ⟨b, rfl, h N H (Gr.refl e) _ (.bl b)⟩
/-- try: .. except x as n: .., the suite for exceptions without fields -/
theorem ss_tryAs (i : Nat) {x n : Str} {body suite : List Stmt} {b₀ : Stmt} {np : Pos} {t2 : WX → List (Addr × Obj) → (Value → Shared → Prop) → TS} {t1 : Exn → Addr → Obj → List (Addr × Obj) → TS} {mb : ST} {su : Exn → ST} {tab : List (Str × Bool)} (F : Fr X ⟨xr X.K, some W⟩) (tk : Takes X W) {jj : Nat} (hr : Room jj X.A) (c : XC X.K X.mg x) (hx : ∀ p ∈ tab, PySem.W.exmOne X.K (.ref (He.ga X.K p.1)) (.ref (He.ga X.K x)) = some p.2)
    (hb : ∀ (W : WX) (pn : List (Addr × Obj)) (xe : Value → Shared → Prop), Takes (X.tr pn xe) W → Fr (X.tr pn xe) ⟨xr X.K, some W⟩ → Room jj (X.tr pn xe).A → SSs (X.tr pn xe) ⟨xr X.K, some W⟩ body (t2 W pn xe) mb)
    (hsu : ∀ (q : Exn) (a : Addr) (oe : Obj) (pn : List (Addr × Obj)), Zc (.ref (He.ga X.K q.cls)) none oe → (∃ vs, oe.data = .fields vs) → SSi (X.suite a ((a, oe) :: pn)) (CN X.K) i a (b₀ :: suite) (t1 q a oe pn) (su q))
    (hs : X.stack = X.env :: X.outer := by rfl) (hf : X.env.frame = some X.env.locals := by rfl) (hN : X.N.Nodup := by assumption) (hi : X.N[i]? = some n := by rfl) (hln : X.env.kindOf n = some .local := by rfl) (hg : Gl X x := by rfl) (hd : (x == ("__debug__" : Str)) = false := by decide) :
    SSt X ⟨xr X.K, some W⟩ (.Try body [.ExceptHandler (some (.Name x np)) (some n) (b₀ :: suite) pos'] [] [] pos) (fun D σ H => (fun W D σ H => ∀ pn xe, Takes (X.tr pn xe) W → Fr (X.tr pn xe) ⟨xr X.K, some W⟩ → t2 W pn xe D σ H) (wAs X.K (.ref (He.ga X.K x)) i (fun a cls d D σ H => ∃ q : Exn, cls = .ref (He.ga X.K q.cls) ∧ d = none ∧ ∀ oe pn, Zc (.ref (He.ga X.K q.cls)) none oe → (∃ vs, oe.data = .fields vs) → t1 q a oe pn D σ H) W D) D σ H) (sTryAs i tab mb (suE su)) := by
  refine ⟨ps_try_as (tb := fun W D σ H => ∀ pn xe, Takes (X.tr pn xe) W → Fr (X.tr pn xe) ⟨xr X.K, some W⟩ → t2 W pn xe D σ H) (ts := fun a cls d D σ H => ∃ q : Exn, cls = .ref (He.ga X.K q.cls) ∧ d = none ∧ ∀ oe pn, Zc (.ref (He.ga X.K q.cls)) none oe → (∃ vs, oe.data = .fields vs) → t1 q a oe pn D σ H) hs hf hN hi hln ⟨hg, hd, .inl c.g⟩ tk (fun W pn xe tk pw => ⟨fun pins s σ H D I h => (hb W pn xe tk (F.tr tk pw) hr).ps.run pins s σ H D I (h pn xe tk (F.tr tk pw))⟩) (fun a oe cls d pn hz hfi => ⟨fun pins s σ H D I h => ?_⟩), es_tryAs (tb := fun W D σ H => ∀ pn xe, Takes (X.tr pn xe) W → Fr (X.tr pn xe) ⟨xr X.K, some W⟩ → t2 W pn xe D σ H) (ts := fun a cls d D σ H => ∃ q : Exn, cls = .ref (He.ga X.K q.cls) ∧ d = none ∧ ∀ oe pn, Zc (.ref (He.ga X.K q.cls)) none oe → (∃ vs, oe.data = .fields vs) → t1 q a oe pn D σ H) hx (fun W' B M H σ env fs S D h pn xe tk' F' => (hb W' pn xe tk' F' hr).ev B M H σ env fs S D h) (fun q a cls d B M H σ env fs S hi hq D h => ?_)⟩
  · obtain ⟨q, rfl, rfl, h⟩ := h
    exact (hsu q a oe pn hz hfi).ps.run pins s σ H D I (h oe pn hz hfi)
  · have h : PostF X.K (CN X.K) B D (if q.fs.isEmpty then su q env else .bad) := h
    obtain ⟨h1, h⟩ := PostF.ite h
    have h2 : q.fs = [] := List.isEmpty_iff.mp h1
    rcases hq with ⟨e1, ⟨_, e2⟩ | ⟨e2, _⟩⟩
    · exact ⟨q, e1, e2, fun oe pn hz hfi => (hsu q a oe pn hz hfi).ev B M H σ env fs S hi D h⟩
    · exact absurd h2 e2
end
end Vm
namespace Vm
open PySem L2 PyProof.Rows
variable [TabsOf]
section
variable {K : PySem.W.Frag} {C : Cn}
theorem ev_dict0 : EvE K C tDNewK (eC (.dct [])) := fun N H σ env e s Q h p hp => h _ _ (Gr.new e hp) _ (.dct (.inl upd_same) .nil)
theorem nx_shl (x y : Val) : NX (vShl x y) := by unfold vShl; split <;> first | exact nx_ite nx_ok nx_bad | exact nx_bad
theorem nx_shr (x y : Val) : NX (vShr x y) := by unfold vShr; split <;> first | exact nx_ite nx_ok nx_bad | exact nx_bad
theorem ops_shl : OpS K (rI CPow fun i j => .int (i * 2 ^ j.toNat)) vShl := ops_I (g := fun i j => .int (i * 2 ^ j.toNat)) (fun _ _ _ => .int _) fun x y z h => by
  unfold vShl at h
  split at h
  · rename_i i j
    obtain ⟨h1, h2⟩ := ite_ok h
    have h1 := big_iff.mp h1
    exact ⟨i, j, rfl, rfl, ⟨h1.1, h1.2.1, by have := h1.2.2; omega⟩, h2⟩
  · cases h
theorem ops_shr : OpS K (rI (fun _ j => 0 ≤ j) fun i j => .int (i / 2 ^ j.toNat)) vShr := ops_I (g := fun i j => .int (i / 2 ^ j.toNat)) (fun _ _ _ => .int _) fun x y z h => by
  unfold vShr at h
  split at h
  · rename_i i j
    obtain ⟨h1, h2⟩ := ite_ok h
    exact ⟨i, j, rfl, rfl, h1, h2⟩
  · cases h
def EvPrV (K : PySem.W.Frag) (C : Cn) (trs : List (TE × TE)) (m : Env → Res (List (Key × Val))) : Prop := ∀ N H σ env, Inn N H → SV K N σ env → ∀ Q : List (V × V) → Hp → Prop, PostR C σ N H (m env) (fun xs N' H' => ∀ vs, RKs K N' vs xs → Q (vs.map fun kv => (kV kv.1, kv.2)) H') → tPairs trs σ H Q
theorem eprv_nil : EvPrV K C [] (DPairsV []) := fun N H σ env e s Q h => h N H (Gr.refl e) [] .nil
theorem eprv_cons {tk ta : TE} {mk ma : EX} {trs : List (TE × TE)} {ps : List (EX × EX)} (hk : EvE K C tk mk) (ha : EvE K C ta ma) (hr : EvPrV K C trs (DPairsV ps)) : EvPrV K C ((tk, ta) :: trs) (DPairsV ((mk, ma) :: ps)) := fun N H σ env e s Q h => by
  refine hk N H σ env e s _ (PostR.imp (PostR.bind h) fun q N0 H0 g0 h0 w rw' => ?_)
  refine ha N0 H0 σ env g0.nh (s.mono g0.nn) _ (PostR.imp (PostR.bind h0) fun x N1 H1 g1 h1 v rv => ?_)
  cases hq : keyOfV q with
  | none => rw [hq] at h1; exact h1.elim
  | some k =>
    rw [hq] at h1
    refine hr N1 H1 σ env g1.nh ((s.mono g0.nn).mono g1.nn) _ (PostR.imp (PostR.bind h1) fun xs N2 H2 g2 h2 vs rvs => ?_)
    have e1 := keyOf_rv rw' hq
    subst e1
    exact h2 N2 H2 (Gr.refl g2.nh) ((k, v) :: vs) (.cons (rv.mono g2.nn) rvs)
theorem ev_dictV {trs : List (TE × TE)} {m : Env → Res (List (Key × Val))} (hp : EvPrV K C trs m) : EvE K C (tDisp trs) (fun env => (m env).bind fun kvs => if kvs.length ≤ 15 then .ok (.dct (mergeV [] kvs)) else .bad) := fun N H σ env e s Q h p hpn => by
  have hNp : N p = none := by
    cases hq : N p with
    | none => rfl
    | some o => have := e p o hq; rw [hpn] at this; cases this
  have g0 : Gr N H N (upd H p (.dK [])) := Gr.newH e hpn
  have e1 := g0.nh
  have h : PostR C σ N H ((m env).bind fun kvs => if kvs.length ≤ 15 then .ok (.dct (mergeV [] kvs)) else .bad) (fun x N' H' => ∀ v, RV K N' v x → Q v H') := h
  cases hd : m env with
  | bad => rw [hd] at h; exact h.elim
  | exc q =>
    rw [hd] at h
    exact hp N _ σ env e1 s _ (by rw [hd]; exact ExcP.step g0 h)
  | ok xs =>
    rw [hd] at h
    refine hp N _ σ env e1 s _ ?_
    rw [hd]
    intro N2 H2 g2 vs rvs
    have h : PostR C σ N H (if xs.length ≤ 15 then .ok (.dct (mergeV [] xs)) else .bad) (fun x N' H' => ∀ v, RV K N' v x → Q v H') := h
    split at h
    · rename_i hl
      have hH2 : H2 p = some (.dK []) := g2.hh.to p _ upd_same rfl
      have hN2 : N2 p = none := by
        cases hq : N2 p with
        | none => rfl
        | some o =>
          rcases g2.nw p (by rw [hq]; simp) with h3 | h3
          · exact absurd hNp h3
          · rw [upd_same] at h3; cases h3
      refine ⟨hH2, vs, rfl, by rw [rvs.length]; exact hl, ?_⟩
      have e3 : Sub N2 (upd N2 p (.dK (mergeK [] vs))) := fun a o q => by rw [upd_ne (ne_of_none q hN2)]; exact q
      refine h (upd N2 p (.dK (mergeK [] vs))) _ ⟨((g0.hh.trans g2.hh).upd hpn), fun a o q => e3 a o (g2.nn a o q), g2.nh.put hN2 hH2, fun a q => ?_⟩ _ (.dct (.inl upd_same) (RKs.merge (RKs.mono e3 _ rvs) .nil))
      · by_cases hap : a = p
        · subst hap; exact .inr hpn
        · rw [upd_ne hap] at q
          rcases g2.nw a q with h3 | h3
          · exact .inl h3
          · rw [upd_ne hap] at h3; exact .inr h3
    · exact h.elim
theorem rgV_rv {N : Hp} (i j : Int) : RVs K N (rgV i j) (rangeL i (j - i).toNat) := by
  unfold rgV rangeL
  generalize (j - i).toNat = n
  have : ∀ l : List Nat, RVs K N (l.map fun k => V.int (i + (k : Nat))) (l.map fun (k : Nat) => Val.int (i + (k : Int))) := by
    intro l
    induction l with
    | nil => exact .nil
    | cons x l ih => exact .cons (.int _) ih
  exact this _
theorem range_in {mk : List Val → Val} {i j : Int} {x : Val} (h : rangeV mk i j = .ok x) : RgOk i j ∧ x = mk (rangeL i (j - i).toNat) := by
  unfold rangeV at h
  obtain ⟨h1, h2⟩ := ite_ok h
  simp only [Bool.and_eq_true] at h1
  have a := smallI_ok h1.1.1
  have b := smallI_ok h1.1.2
  have c := big_iff.mp h1.2
  exact ⟨⟨by omega, by omega, by omega, by omega, by omega⟩, h2⟩
theorem nx_rangeV (mk : List Val → Val) (i j : Int) : NX (rangeV mk i j) := nx_ite nx_ok nx_bad
theorem ef_listRg1 {ta : TE} {ma : EX} (ha : EvE K C ta ma) : EvF K C (tLstRg (tRg1 ta)) (eRange1 .lst ma) := fun N H σ env e s Q h => by
  refine ha N H σ env e s _ (PostR.imp (PostR.bind h) fun x N1 H1 g1 h1 v rv => ?_)
  cases rv with
  | int n =>
    obtain ⟨z, hz, kk⟩ := h1.val (nx_rangeV _ _ _)
    obtain ⟨r1, rfl⟩ := range_in hz
    refine ⟨n, rfl, r1, fun q hq => ?_⟩
    obtain ⟨ys, e1, k3⟩ := kk N1 H1 (Gr.refl g1.nh)
    cases e1
    exact k3 q _ hq (rgV_rv 0 n)
  | _ => exact h1.elim
theorem ev_tupRg1 {ta : TE} {ma : EX} (ha : EvE K C ta ma) : EvE K C (tTupRg (tRg1 ta)) (eRange1 .tup ma) := fun N H σ env e s Q h => by
  refine ha N H σ env e s _ (PostR.imp (PostR.bind h) fun x N1 H1 g1 h1 v rv => ?_)
  cases rv with
  | int n =>
    obtain ⟨z, hz, kk⟩ := h1.val (nx_rangeV _ _ _)
    obtain ⟨r1, rfl⟩ := range_in hz
    refine ⟨n, rfl, r1, fun q hq => ?_⟩
    exact kk _ _ (Gr.new g1.nh hq) _ (.tup (SqP.of upd_same) (rgV_rv 0 n))
  | _ => exact h1.elim
variable {B : Bs} {M H : Hp} {σ : L2.St} {env : Env} {fs : List Addr} {D : Ends}
theorem RVs.eraseIdx {N : Hp} : ∀ {vs : List V} {xs : List Val} (j : Nat), RVs K N vs xs → RVs K N (vs.eraseIdx j) (xs.eraseIdx j)
  | _, _, _, .nil => .nil
  | _, _, 0, .cons _ r => r
  | _, _, j + 1, .cons h r => .cons h (RVs.eraseIdx j r)
theorem seqIx {n : Nat} {k : Int} {m : Nat} (h : ixNat n k = some m) : seqIndex? k n = some m := by
  unfold ixNat at h
  unfold seqIndex?
  split at h
  · rename_i h0
    split at h
    · cases h
      rw [if_neg (by omega : ¬ k < 0), if_pos (by simp; omega)]
    · cases h
  · split at h
    · rename_i h0 h1
      cases h
      rw [if_pos (by omega : k < 0), if_pos (by simp; omega)]
    · cases h
theorem pop_at {k : Val} {f : Val → List Val → Flow} {i : Nat} (S : SR K B M H σ env fs) (h : PostF K C B D (popAt i env k f)) : ∃ xs a vs n m x v, env[i]? = some (.oL xs) ∧ k = .int n ∧ σ[i]? = some (some (.ref a)) ∧ H a = some (.lst vs) ∧ RVs K M vs xs ∧ -(2 ^ 63) ≤ n ∧ n < 2 ^ 63 ∧ seqIndex? n vs.length = some m ∧ vs[m]? = some v ∧ RV K M v x ∧
    SR K B M (upd H a (.lst (vs.eraseIdx m))) σ (env.set i (.oL (xs.eraseIdx m))) fs ∧ PostF K C B D (f x (xs.eraseIdx m)) := by
  unfold popAt at h
  split at h
  · rename_i xs n hx
    obtain ⟨hs, h⟩ := PostF.ite h
    split at h
    · rename_i m hm
      split at h
      · rename_i x hg
        obtain ⟨a, vs, h1, h2, h3, h4⟩ := S.write hx
        obtain ⟨v, hv, rv⟩ := h3.get hg
        obtain ⟨s1, s2⟩ := smallI_ok hs
        exact ⟨xs, a, vs, n, m, x, v, hx, rfl, h1, h2, h3, by omega, by omega, by rw [h3.length]; exact seqIx hm, hv, rv, h4 (h3.eraseIdx m), h⟩
      · exact h.elim
    · exact h.elim
  · exact h.elim
theorem es_popAtTo {tb : TE} {mb : EX} {i j : Nat} (hb : EvE K C tb mb) : EvS K C (tAsg (tBM K "list" rPopAt (tVar i) (tCons tb tNil)) (gName j)) (sPopAtTo i j mb) := fun B M H σ env fs S D h => by
  unfold sPopAtTo at h
  split at h
  · rename_i xs0 hx0
    obtain ⟨a0, vs0, h01, h02, h03, _⟩ := S.write hx0
    refine ⟨.ref a0, h01, .inl ⟨rfl, vs0, SqL.of h02⟩, ?_⟩
    refine hb _ H σ env (full_sub S) S.sv _ (post_full S h fun k N' H' _ g S' hq w rw' => ?_)
    obtain ⟨xs, a, vs, n, m, x, v, hx, rfl, h1, h2, h3, b1, b2, hm, hv, rv, S2, hq⟩ := pop_at S' hq
    rw [h01] at h1
    cases h1
    cases rw'
    obtain ⟨⟨hj, hij⟩, hq⟩ := PostF.ite hq
    refine ⟨a0, vs, n, m, v, rfl, rfl, h2, b1, b2, hm, hv, ?_⟩
    obtain ⟨fs', S3⟩ := S2.putV (i := j) rv
    exact hq _ _ _ fs' S3
  · exact h.elim
theorem es_appPop {tb : TE} {mb : EX} {i j : Nat} (hb : EvE K C tb mb) : EvS K C (tDrop (tBM K "list" rAppend (tVar i) (tCons (tBM K "list" rPopAt (tVar j) (tCons tb tNil)) tNil))) (sAppPop i j mb) := fun B M H σ env fs S D h => by
  unfold sAppPop at h
  split at h
  · rename_i ys ys0 hy hx0
    obtain ⟨c, us, k1, k2, k3, _⟩ := S.write hy
    obtain ⟨a0, vs0, h01, h02, h03, _⟩ := S.write hx0
    refine ⟨.ref c, k1, .inl ⟨rfl, us, SqL.of k2⟩, ?_⟩
    refine ⟨.ref a0, h01, .inl ⟨rfl, vs0, SqL.of h02⟩, ?_⟩
    refine hb _ H σ env (full_sub S) S.sv _ (post_full S h fun k N' H' _ g S' hq w rw' => ?_)
    obtain ⟨xs, a, vs, n, m, x, v, hx, rfl, h1, h2, h3, b1, b2, hm, hv, rv, S2, hq⟩ := pop_at S' hq
    rw [h01] at h1
    cases h1
    cases rw'
    obtain ⟨⟨hij, hl⟩, hq⟩ := PostF.ite hq
    refine ⟨a0, vs, n, m, v, rfl, rfl, h2, b1, b2, hm, hv, ?_⟩
    obtain ⟨c', us', q1, q2, q3, q4⟩ := S2.write (i := i) (xs := ys) (by rw [List.getElem?_set_ne (Ne.symm hij)]; exact hy)
    rw [k1] at q1
    cases q1
    refine ⟨c, us', v, rfl, rfl, q2, by rw [line_eq, q3.length]; exact hl, ?_⟩
    exact hq _ _ σ fs (q4 (q3.append (.cons rv .nil)))
  · exact h.elim
end
section
variable {X : Cx} {C : Cn} {a b c : Expr} {ta tb tc : TE} {ma mb mc : EX} {pos p : Pos} {es : List Expr}
/-- a comprehension that may be assigned to a plain local name -/
structure SFc (X : Cx) (C : Cn) (e : Expr) (te : TE) (m : EX) : Prop where
  sf : SF X C e te m
  as : ∀ (i : Nat) (y : Str) (py spos : Pos), X.N.Nodup → X.N[i]? = some y → X.env.scope.names.lookup y = some .local → swapsWith e (some (.Name y py)) spos.line X.env = pure true → PS X (.Assign [.Name y py] e spos) (tAsg te (gName i))
theorem sfc_comp {tt : TT} {mt : EB} {elt tg iter : Expr} {ifs : List Expr} {scope : Scope} {own : List (Str × Nat)} {wi : TI} {it : EI} {g : TG} {put : Put} {is : List Nat} {te : TE} {me : EX} (F : Fr X C) (hi : SI X C tg iter wi it) (hp : inBlk X scope fun Y => STg Y tg g put is) (ht : inBlk X scope fun Y => STt Y (C0 C) ifs tt mt)
    (he : inBlk X scope fun Y => SE Y (C0 C) elt te me) (hsub : ∀ i ∈ is, i ∈ own.map (·.2) := by decide) (hN : X.N.Nodup := by assumption) (ok : BlkOk X.N X.env.scope scope own := by exact blkOk_by (by rfl)) (hs : ∀ x, foldedSetIterable iter X.env x = pure x := by intro _; rfl) :
    SFc X C (.ListComp elt [⟨tg, iter, ifs, 0⟩] scope pos) (tLc wi g tt te (own.map (·.2))) (eComp it (own.map (·.2)) put mt me) :=
  ⟨sf_comp F hi hp ht he hsub hN ok hs, fun i y py spos hN' hy hyl hsw => ps_setLc F.ca hN' hy hyl hsw hi.pi ok (fun s H Cc cl fp => (hp s H Cc cl fp).pe) (fun s H Cc cl fp => (ht s H Cc cl fp).pe) (fun s H Cc cl fp => (he s H Cc cl fp).pe) hs⟩
theorem ss_setLc (i : Nat) {x : Str} {it : EI} {own : List Nat} {put : Put} {mt : EB} {me : EX} (h : SFc X C a ta (eComp it own put mt me)) (hs : swapsWith a (some (.Name x p)) pos.line X.env = pure true := by exact sw_true rfl rfl rfl (by decide +kernel)) (hN : X.N.Nodup := by assumption) (hi : X.N[i]? = some x := by rfl) (hx : X.env.scope.names.lookup x = some .local := by rfl) :
    SSt X C (.Assign [.Name x p] a pos) (tAsg ta (gName i)) (sSet i (eComp it own put mt me)) := ⟨h.as i x p pos hN hi hx hs, es_set (EvF.e comp_lst h.sf.ev)⟩
theorem se_dict0 : SE X C (.Dict [] [] pos) tDNewK (eC (.dct [])) := ⟨pe_dnewK, ev_dict0⟩
theorem se_shl (ha : SE X C a ta ma) (hb : SE X C b tb mb) : SE X C (.BinOp a .LShift b pos) (tOp (rI CPow fun i j => .int (i * 2 ^ j.toNat)) ta tb) (e2 vShl ma mb) := ⟨pe_op op_shl ha.pe hb.pe, ev_op ops_shl nx_shl ha.ev hb.ev⟩
theorem se_shr (ha : SE X C a ta ma) (hb : SE X C b tb mb) : SE X C (.BinOp a .RShift b pos) (tOp (rI (fun _ j => 0 ≤ j) fun i j => .int (i / 2 ^ j.toNat)) ta tb) (e2 vShr ma mb) := ⟨pe_op op_shr ha.pe hb.pe, ev_op ops_shr nx_shr ha.ev hb.ev⟩
structure SPrV (X : Cx) (C : Cn) (pos : Pos) (keys : List (Option Expr)) (values : List Expr) (trs : List (TE × TE)) (ps : List (EX × EX)) : Prop where
  pe : PPs X pos keys values trs
  ev : EvPrV X.K C trs (DPairsV ps)
theorem spv_nil : SPrV X C pos [] [] [] [] := ⟨pps_nil, eprv_nil⟩
theorem spv_cons {ks : List (Option Expr)} {vs : List Expr} {trs : List (TE × TE)} {ps : List (EX × EX)} (ha : SE X C a ta ma) (hb : SE X C b tb mb) (hr : SPrV X C pos ks vs trs ps) : SPrV X C pos (some a :: ks) (b :: vs) ((ta, tb) :: trs) ((ma, mb) :: ps) := ⟨pps_cons ha.pe hb.pe hr.pe, eprv_cons ha.ev hb.ev hr.ev⟩
theorem se_dictV {keys : List (Option Expr)} {values : List Expr} {trs : List (TE × TE)} {ps : List (EX × EX)} (h : SPrV X C pos keys values trs ps) (hall : keys.all (·.isSome) = true := by rfl) (hl : keys.length = values.length := by rfl) (h0 : keys ≠ [] := by intro h; cases h) (h15 : keys.length ≤ 15 := by decide) :
    SE X C (.Dict keys values pos) (tDisp trs) (eDictV ps) := ⟨pe_disp h.pe hall hl h0 h15, ev_dictV h.ev⟩
theorem sf_listRg1 {p2 pos2 : Pos} (F : Fr X C) (hm : X.mg "list" = none) (hr : X.mg "range" = none) (ha : SE X C a ta ma) (hg : Gl X "list" := by rfl) (hgr : Gl X "range" := by rfl) (na1 : starEach [a] X.env = (false, eval a X.env) :: starEach [] X.env := by rfl)
    (na : starEach [.Call (.Name "range" p2) [a] [] pos2] X.env = (false, eval (.Call (.Name "range" p2) [a] [] pos2) X.env) :: starEach [] X.env := by rfl) : SF X C (.Call (.Name "list" p) [.Call (.Name "range" p2) [a] [] pos2] [] pos) (tLstRg (tRg1 ta)) (eRange1 .lst ma) := ⟨pe_listRg F.ca hg hm (prg_1 hgr hr ha.pe na1) na, ef_listRg1 ha.ev⟩
theorem se_tupRg1 {p2 pos2 : Pos} (F : Fr X C) (hm : X.mg "tuple" = none) (hr : X.mg "range" = none) (ha : SE X C a ta ma) (hg : Gl X "tuple" := by rfl) (hgr : Gl X "range" := by rfl) (na1 : starEach [a] X.env = (false, eval a X.env) :: starEach [] X.env := by rfl)
    (na : starEach [.Call (.Name "range" p2) [a] [] pos2] X.env = (false, eval (.Call (.Name "range" p2) [a] [] pos2) X.env) :: starEach [] X.env := by rfl) : SE X C (.Call (.Name "tuple" p) [.Call (.Name "range" p2) [a] [] pos2] [] pos) (tTupRg (tRg1 ta)) (eRange1 .tup ma) := ⟨pe_tupRg F.ca hg hm (prg_1 hgr hr ha.pe na1) na, ev_tupRg1 ha.ev⟩
/-- x.pop(b), as in y = x.pop(b) -/
structure SPop (X : Cx) (C : Cn) (i : Nat) (e : Expr) (tb : TE) (mb : EX) : Prop where
  pe : PE X e (tBM X.K "list" rPopAt (tVar i) (tCons tb tNil))
  ev : EvE X.K C tb mb
theorem pe_popAt (i : Nat) {x : Str} {pa : Pos} (hb : SE X C b tb mb) (hN : X.N[i]? = some x := by rfl) (hv : Vis X.env.scope x := by first | exact Or.inl rfl | exact Or.inr (Or.inl rfl) | exact Or.inr (Or.inr rfl)) (hd : (x == ("__debug__" : Str)) = false := by decide) (hcd : (x == ("__classdict__" : Str)) = false := by decide)
    (hbase : attributeBase (.Name x p) "pop" X.env (eval (.Name x p) X.env) = eval (.Name x p) X.env := by rfl)
    (hfew : ((backTo pos (starEach [b] X.env)).all (fun x => !x.1) && (backToKw pos (keywordEach [] X.env)).all (fun x => x.1.isSome)
      && decide ([b].length + ([] : List Keyword).length + (if ([] : List Keyword).isEmpty then 0 else 1) < 30)) = true := by rfl)
    (hline : (pa.endLine == pos.line) = true := by rfl) (hs : starEach [b] X.env = (false, eval b X.env) :: starEach [] X.env := by rfl) (hplain : (backTo pos (starEach [] X.env)).any (·.1) = false := by rfl) :
    SPop X C i (.Call (.Attribute (.Name x p) "pop" pa) [b] [] pos) tb mb := ⟨pe_bm PySem.F.plainAttrs_list PySem.F.slot_list_pop PySem.F.type_list_pop mt_popAt (pv i hN hv hd hcd) (pa_cons hb.pe pa_nil hs) hbase hfew hline hs hplain, hb.ev⟩
theorem ss_popAtTo (i j : Nat) {y : Str} {py : Pos} {e : Expr} (h : SPop X C i e tb mb)
    (hs : swapsWith e (some (.Name y py)) pos.line X.env = pure false := by rfl) (hNd : X.N.Nodup := by assumption) (hi : X.N[j]? = some y := by rfl) (hx : Loc X.env.scope y := by first | exact .inl rfl | exact .inr rfl)
    (hf : X.fn y = true ∨ X.env.scope.names.lookup y = some .local := by first | exact .inr rfl | exact .inl rfl) : SSt X C (.Assign [.Name y py] e pos) (tAsg (tBM X.K "list" rPopAt (tVar i) (tCons tb tNil)) (gName j)) (sPopAtTo i j mb) := ⟨ps_set hNd hi hx h.pe hs hf, es_popAtTo h.ev⟩
theorem ss_appPop (i j : Nat) {x : Str} {e : Expr} {pa pos2 : Pos} (h : SPop X C j e tb mb) (hN : X.N[i]? = some x := by rfl) (hv : Vis X.env.scope x := by first | exact Or.inl rfl | exact Or.inr (Or.inl rfl) | exact Or.inr (Or.inr rfl)) (hd : (x == ("__debug__" : Str)) = false := by decide) (hcd : (x == ("__classdict__" : Str)) = false := by decide)
    (hbase : attributeBase (.Name x p) "append" X.env (eval (.Name x p) X.env) = eval (.Name x p) X.env := by rfl)
    (hfew : ((backTo pos (starEach [e] X.env)).all (fun x => !x.1) && (backToKw pos (keywordEach [] X.env)).all (fun x => x.1.isSome)
      && decide ([e].length + ([] : List Keyword).length + (if ([] : List Keyword).isEmpty then 0 else 1) < 30)) = true := by rfl)
    (hline : (pa.endLine == pos.line) = true := by rfl) (hs : starEach [e] X.env = (false, eval e X.env) :: starEach [] X.env := by rfl) (hplain : (backTo pos (starEach [] X.env)).any (·.1) = false := by rfl)
    (hsw : swapsWith (.Call (.Attribute (.Name x p) "append" pa) [e] [] pos) none pos2.line X.env = pure false := by rfl) : SSt X C (.Expr (.Call (.Attribute (.Name x p) "append" pa) [e] [] pos) pos2) (tDrop (tBM X.K "list" rAppend (tVar i) (tCons (tBM X.K "list" rPopAt (tVar j) (tCons tb tNil)) tNil))) (sAppPop i j mb) :=
  ⟨ps_expr (pe_bm PySem.F.plainAttrs_list PySem.F.slot_list_append PySem.F.type_list_append mt_append (pv i hN hv hd hcd) (pa_cons h.pe pa_nil hs) hbase hfew hline hs hplain) hsw, es_appPop h.ev⟩
end
end Vm
namespace Vm
open PySem L2
variable [TabsOf]
def compL2 (put : Put) (tt : EB) (it1 : EI) (own1 : List Nat) (put1 : Put) (tt1 : EB) (el : EX) (env : Env) : List Val → Res (List Val)
  | [] => .ok []
  | x :: xs => (put x env).nx.bind fun e => (tt e).nx.bind fun b => bif b then (it1 e).nx.bind fun ys => (compL put1 tt1 el (wipeE e own1) ys).bind fun r => (compL2 put tt it1 own1 put1 tt1 el env xs).bind fun r' => .ok (r ++ r') else compL2 put tt it1 own1 put1 tt1 el env xs
def eComp2 (it : EI) (own : List Nat) (put : Put) (tt : EB) (it1 : EI) (own1 : List Nat) (put1 : Put) (tt1 : EB) (el : EX) : EX := fun env => (it env).bind fun xs => (compL2 put tt it1 own1 put1 tt1 el (wipeE env own) xs).bind fun r => if r.length ≤ 16777216 then .ok (.lst r) else .bad
section
variable {put put1 : Put} {tt tt1 : EB} {it1 : EI} {own1 : List Nat} {el : EX} {env : Env}
theorem compL_nx : ∀ (xs : List Val) (q : Exn), compL put tt el env xs ≠ .exc q
  | [], _ => fun h => by cases h
  | x :: xs, q => fun h => by
    unfold compL at h
    cases h1 : put x env with
    | bad => rw [h1] at h; cases h
    | exc q => rw [h1] at h; cases h
    | ok e =>
      rw [h1] at h
      replace h : ((tt e).nx.bind fun b => bif b then (el e).nx.bind fun y => (compL put tt el env xs).bind fun r => .ok (y :: r) else compL put tt el env xs) = .exc q := h
      cases h2 : tt e with
      | bad => rw [h2] at h; cases h
      | exc q => rw [h2] at h; cases h
      | ok b =>
        rw [h2] at h
        cases b with
        | false => exact compL_nx xs q h
        | true =>
          replace h : ((el e).nx.bind fun y => (compL put tt el env xs).bind fun r => .ok (y :: r)) = .exc q := h
          cases h3 : el e with
          | bad => rw [h3] at h; cases h
          | exc q => rw [h3] at h; cases h
          | ok y =>
            rw [h3] at h
            replace h : ((compL put tt el env xs).bind fun r => .ok (y :: r)) = .exc q := h
            cases h4 : compL put tt el env xs with
            | bad => rw [h4] at h; cases h
            | exc q' => rw [h4] at h; cases h; exact compL_nx xs q h4
            | ok r' => rw [h4] at h; cases h
theorem compL2_nx : ∀ (xs : List Val) (q : Exn), compL2 put tt it1 own1 put1 tt1 el env xs ≠ .exc q
  | [], _ => fun h => by cases h
  | x :: xs, q => fun h => by
    unfold compL2 at h
    cases h1 : put x env with
    | bad => rw [h1] at h; cases h
    | exc q => rw [h1] at h; cases h
    | ok e =>
      rw [h1] at h
      simp only [Res.nx, Res.bind_ok] at h
      cases h2 : tt e with
      | bad => rw [h2] at h; cases h
      | exc q => rw [h2] at h; cases h
      | ok b =>
        rw [h2] at h
        simp only [Res.nx, Res.bind_ok] at h
        cases b with
        | false => exact compL2_nx xs q h
        | true =>
          simp only [cond_true] at h
          cases h3 : it1 e with
          | bad => rw [h3] at h; cases h
          | exc q => rw [h3] at h; cases h
          | ok ys =>
            rw [h3] at h
            simp only [Res.nx, Res.bind_ok] at h
            cases h4 : compL put1 tt1 el (wipeE e own1) ys with
            | bad => rw [h4] at h; cases h
            | exc q' => exact compL_nx _ _ h4
            | ok r =>
              rw [h4] at h
              simp only [Res.bind_ok] at h
              cases h5 : compL2 put tt it1 own1 put1 tt1 el env xs with
              | bad => rw [h5] at h; cases h
              | exc q' => exact compL2_nx xs _ h5
              | ok r' => rw [h5] at h; cases h
theorem compL2_cons {x : Val} {xs r : List Val} (h : compL2 put tt it1 own1 put1 tt1 el env (x :: xs) = .ok r) :
    ∃ e b, put x env = .ok e ∧ tt e = .ok b ∧ ((b = true ∧ ∃ ys r1 r2, it1 e = .ok ys ∧ compL put1 tt1 el (wipeE e own1) ys = .ok r1 ∧ compL2 put tt it1 own1 put1 tt1 el env xs = .ok r2 ∧ r = r1 ++ r2) ∨ (b = false ∧ compL2 put tt it1 own1 put1 tt1 el env xs = .ok r)) := by
  unfold compL2 at h
  cases h1 : put x env with
  | bad => rw [h1] at h; cases h
  | exc q => rw [h1] at h; cases h
  | ok e =>
    rw [h1] at h
    simp only [Res.nx, Res.bind_ok] at h
    cases h2 : tt e with
    | bad => rw [h2] at h; cases h
    | exc q => rw [h2] at h; cases h
    | ok b =>
      rw [h2] at h
      simp only [Res.nx, Res.bind_ok] at h
      refine ⟨e, b, rfl, h2, ?_⟩
      cases b with
      | false => exact .inr ⟨rfl, h⟩
      | true =>
        simp only [cond_true] at h
        cases h3 : it1 e with
        | bad => rw [h3] at h; cases h
        | exc q => rw [h3] at h; cases h
        | ok ys =>
          rw [h3] at h
          simp only [Res.nx, Res.bind_ok] at h
          cases h4 : compL put1 tt1 el (wipeE e own1) ys with
          | bad => rw [h4] at h; cases h
          | exc q' => exact absurd h4 (compL_nx _ _)
          | ok r1 =>
            rw [h4] at h
            simp only [Res.bind_ok] at h
            cases h5 : compL2 put tt it1 own1 put1 tt1 el env xs with
            | bad => rw [h5] at h; cases h
            | exc q' => exact absurd h5 (compL2_nx _ _)
            | ok r2 =>
              rw [h5] at h
              simp only [Res.bind_ok] at h
              cases h
              exact .inl ⟨rfl, ys, r1, r2, rfl, h4, rfl, rfl⟩
end
section
variable {K : PySem.W.Frag} {C : Cn}
/-- the new list at D, its members so far; N' stays -/
def CP (K : PySem.W.Frag) (N1 H1 : Hp) (D : Addr) (acc : List V) (ys : List Val) (N' H' : Hp) : Prop := ∃ Hn, Gr N1 H1 N' Hn ∧ Hn D = none ∧ H' = upd Hn D (.lst acc) ∧ RVs K N' acc ys
section
variable {N1 H1 N' H' : Hp} {D : Addr} {acc : List V} {ys : List Val}
theorem CP.sub (p : CP K N1 H1 D acc ys N' H') : Inn N' H' := by
  obtain ⟨Hn, g, hn, rfl, _⟩ := p
  exact g.nh.newH hn
theorem CP.nn (p : CP K N1 H1 D acc ys N' H') : Sub N1 N' := by
  obtain ⟨Hn, g, hn, rfl, _⟩ := p
  exact g.nn
theorem CP.at (p : CP K N1 H1 D acc ys N' H') : H' D = some (.lst acc) := by
  obtain ⟨Hn, g, hn, rfl, _⟩ := p
  exact upd_same
theorem CP.turn (hD : H1 D = none) (p : CP K N1 H1 D acc ys N' H') {N0 Nx Hx : Hp} (e0 : Sub N0 N') (gx : Gr N0 H' Nx Hx) :
    ∃ Nu, Sub Nx Nu ∧ Sub N' Nu ∧ Inn Nu Hx ∧ ∀ N4 H4, Gr Nu Hx N4 H4 → CP K N1 H1 D acc ys N4 H4 := by
  have sb' := p.sub
  have hAt := p.at
  obtain ⟨Hn, g2, hn, rfl, rv⟩ := p
  let Nu : Hp := fun a => if Nx a = none then N' a else Nx a
  have u1 : Sub Nx Nu := fun a o q => by show (if Nx a = none then N' a else Nx a) = some o; rw [if_neg (by rw [q]; simp)]; exact q
  have gu := gx.join sb' e0
  have u2 : Inn Nu Hx := gu.nh
  have u3 : Sub N' Nu := gu.nn
  have nD : N' D = none := by
    cases hq : N' D with
    | none => rfl
    | some o => have := g2.nh D o hq; rw [hn] at this; cases this
  have u4 : ∀ a, Nu a ≠ none → N' a ≠ none ∨ (Hn a = none ∧ a ≠ D) := fun a q => by
    have q' : (if Nx a = none then N' a else Nx a) ≠ none := q
    by_cases hz : Nx a = none
    · rw [if_pos hz] at q'; exact .inl q'
    · rcases gx.nw a hz with h1 | h1
      · cases hq : N0 a with
        | none => exact absurd hq h1
        | some o => exact .inl (by rw [e0 a o hq]; simp)
      · right
        have hne : a ≠ D := fun z => by rw [z, upd_same] at h1; cases h1
        refine ⟨?_, hne⟩
        rw [upd_ne hne] at h1
        exact h1
  have hDx : Hx D = some (.lst acc) := gx.hh.to D _ upd_same rfl
  refine ⟨Nu, u1, u3, u2, fun N4 H4 g4 => ?_⟩
  have n4 : N4 D = none := by
    cases hq : N4 D with
    | none => rfl
    | some o =>
      rcases g4.nw D (by rw [hq]; simp) with h1 | h1
      · rcases u4 D h1 with h2 | h2
        · exact absurd nD h2
        · exact absurd rfl h2.2
      · rw [hDx] at h1; cases h1
  refine ⟨fun a => if a = D then none else H4 a, ⟨(((g2.hh.upd hD).trans gx.hh).trans g4.hh).hid hD, fun a o q => g4.nn a o (u3 a o (g2.nn a o q)), g4.nh.hid n4 (g4.hh.to D _ hDx rfl), fun a q => ?_⟩, if_pos rfl, ?_, rv.mono fun a o q => g4.nn a o (u3 a o q)⟩
  · rcases g4.nw a q with h1 | h1
    · rcases u4 a h1 with h2 | h2
      · exact g2.nw a h2
      · exact .inr (g2.hh.free h2.1)
    · right
      exact ((g2.hh.upd hD).trans gx.hh).free h1
  · funext a
    unfold upd
    by_cases ha : a = D
    · rw [if_pos ha, ha]; exact g4.hh.to D _ hDx rfl
    · rw [if_neg ha]
      exact (if_neg ha).symm
theorem CP.push (hD : H1 D = none) (p : CP K N1 H1 D acc ys N' H') {v : V} {y : Val} (rv : RV K N' v y) : CP K N1 H1 D (acc ++ [v]) (ys ++ [y]) N' (upd H' D (.lst (acc ++ [v]))) := by
  obtain ⟨Hn, g, hn, rfl, r⟩ := p
  refine ⟨Hn, g, hn, ?_, r.append (.cons rv .nil)⟩
  funext a
  unfold upd
  by_cases ha : a = D
  · rw [if_pos ha, if_pos ha]
  · rw [if_neg ha, if_neg ha, if_neg ha]
theorem CP.start (hD : H1 D = none) (g : Inn N1 H1) : CP K N1 H1 D [] [] N1 (upd H1 D (.lst [])) := ⟨H1, Gr.refl g, hD, rfl, .nil⟩
end
/-- any loop over a walk -/
theorem walk_W {J : It} {n : Nat} {G : Hp → Prop} {Y : Nat → Hp → V → Hp → Prop} (w : Walk J n G Y) {H1 : Hp} {Qd : Hp → Prop} {T : V → Hp → (Hp → Prop) → Prop} (Pv : Nat → Hp → Prop) (h0 : Pv 0 H1) (hG : ∀ i H, i ≤ n → Pv i H → G H)
    (hs : ∀ i x H H', i < n → Pv i H → Y i H x H' → T x H' (Pv (i + 1))) (hd : ∀ H, Pv n H → Qd H) :
    ∃ W : Nat → Nat → Hp → Prop, (∃ m, W 0 m H1) ∧ ∀ i m H, W i m H →
      (J.stop i H ∧ Qd H) ∨ (J.go i H ∧ ∃ Nx : Hp → Prop, (∀ H', Nx H' → ∃ m', m' < m ∧ W (i + 1) m' H') ∧ ∀ x H', J.yld i H x H' → T x H' Nx) := by
  refine ⟨fun i m H => m = n - i ∧ i ≤ n ∧ Pv i H, ⟨n, by simp, Nat.zero_le _, h0⟩, ?_⟩
  rintro i m H ⟨rfl, hi, p⟩
  have q := hG i H hi p
  by_cases hlt : i < n
  · refine .inr ⟨w.goes i H hlt q, Pv (i + 1), fun H' p' => ⟨n - (i + 1), by omega, rfl, hlt, p'⟩, fun x H' y => hs i x H H' hlt p (w.yields i H x H' hlt q y)⟩
  · have e : i = n := by omega
    subst e
    exact .inl ⟨w.stops H q, hd H p⟩
theorem ef_comp2 {wi wi1 : TI} {it it1 : EI} {g g1 : TG} {put put1 : Put} {is is1 own own1 : List Nat} {tt tt1 : TT} {te : TE} {mt mt1 : EB} {me : EX} (hi : EvI K C wi it) (hp : EvP K g put is) (hsub : ∀ i ∈ is, i ∈ own)
    (ht : EvB K (C0 C) tt mt) (hi1 : EvI K (C0 C) wi1 it1) (hp1 : EvP K g1 put1 is1) (hsub1 : ∀ i ∈ is1, i ∈ own1) (ht1 : EvB K (C0 C) tt1 mt1) (he : EvE K (C0 C) te me) :
    EvF K C (tLc2 wi g tt wi1 g1 tt1 te own own1) (eComp2 it own put mt it1 own1 put1 mt1 me) := fun N H σ env e s Q h => by
  refine hi N H σ env e s _ (PostR.imp (PostR.bind h) fun xs N1 H1 g1 h1 J hJ => ?_)
  intro D hD
  obtain ⟨G, Y, w, hG, hY⟩ := hJ
  cases hc : compL2 put mt it1 own1 put1 mt1 me (wipeE env own) xs with
  | bad => rw [hc] at h1; exact h1.elim
  | exc q => exact absurd hc (compL2_nx _ _)
  | ok r =>
    rw [hc] at h1
    replace h1 : PostR C σ N1 H1 (if r.length ≤ 16777216 then .ok (Val.lst r) else .bad) _ := h1
    split at h1
    case isFalse => exact h1.elim
    rename_i hsz
    have fin : ∀ N' H', Gr N1 H1 N' H' → ∀ p vs, H' p = none → RVs K N' vs r → Q (.ref p) (upd H' p (.lst vs)) := fun N' H' g p vs => by
      obtain ⟨ys, e1, h2⟩ := (show ∀ N' H', Gr N1 H1 N' H' → ∃ ys, Val.lst r = .lst ys ∧ ∀ p vs, H' p = none → RVs K N' vs ys → Q (.ref p) (upd H' p (.lst vs)) from h1) N' H' g
      cases e1
      exact h2 p vs
    have s1 : SV K N1 σ env := s.mono g1.nn
    refine walk_W w (fun i H' => ∃ N' acc ys rest, CP K N1 H1 D acc ys N' H' ∧ compL2 put mt it1 own1 put1 mt1 me (wipeE env own) (xs.drop i) = .ok rest ∧ ys ++ rest = r)
      ⟨N1, [], [], r, CP.start hD g1.nh, by rw [List.drop_zero]; exact hc, rfl⟩ (fun i H' _ ⟨N', acc, ys, rest, p, _, _⟩ => hG H' (p.sub.low p.nn)) ?_ ?_
    · rintro i x Hi Hx hi ⟨N', acc, ys, rest, p, hrest, hr⟩ y
      obtain ⟨Nx, xv, gx, hxi, rx⟩ := hY i _ x Hx hi (p.sub.low p.nn) y
      obtain ⟨Nu, u1, u3, u2, back⟩ := p.turn hD p.nn gx
      rw [List.drop_eq_getElem_cons hi] at hrest
      have hxe : xs[i] = xv := by rw [List.getElem?_eq_getElem hi] at hxi; exact Option.some.inj hxi
      rw [hxe] at hrest
      obtain ⟨e1, b, hput, hb, hways⟩ := compL2_cons hrest
      refine hp Nu Hx (L2.wipe σ own) (wipeE env own) x xv e1 u2 (rx.mono u1) hput _ fun l0 hl he1 => ?_
      refine ⟨by rw [wipe_sets (fun t ht => hsub _ (hl t ht).1), wipe_wipe fun v hv => hv], ?_⟩
      have s2 : SV K Nu (setsS (L2.wipe σ own) l0) e1 := by
        rw [he1]
        exact ((s1.mono (fun a o q => u3 a o (p.nn a o q))).wipe own).sets fun t ht => (hl t ht).2
      refine ht Nu Hx _ e1 u2 s2 _ ?_
      rw [hb]
      intro N3 H3 g3
      have p3 := back N3 H3 g3
      rcases hways with ⟨rfl, zs, r1, r2, hit, hr1, hr2, hrr⟩ | ⟨rfl, hr'⟩
      · show wi1 _ H3 _
        refine hi1 N3 H3 _ e1 g3.nh (s2.mono g3.nn) _ ?_
        rw [hit]
        intro N4 H4 g4 J1 hJ1
        have p4 := back N4 H4 (g3.trans g4)
        have s4 : SV K N4 (setsS (L2.wipe σ own) l0) e1 := (s2.mono g3.nn).mono g4.nn
        obtain ⟨G1, Y1, w1, hG1, hY1⟩ := hJ1
        refine walk_W w1 (fun j H' => ∃ N' acc ys rest, CP K N1 H1 D acc ys N' H' ∧ Sub N4 N' ∧ compL put1 mt1 me (wipeE e1 own1) (zs.drop j) = .ok rest ∧ ys ++ (rest ++ r2) = r)
          ⟨N4, acc, ys, r1, p4, fun _ _ q => q, by rw [List.drop_zero]; exact hr1, by rw [← hr, hrr]⟩ (fun j H' _ ⟨N', acc, ys, rest, p, e, _, _⟩ => hG1 H' (p.sub.low e)) ?_ ?_
        · rintro j x Hj Hx hj ⟨N', acc, ys, rest, p, e4, hrest, hr⟩ y
          obtain ⟨Nx, xv, gx, hxi, rx⟩ := hY1 j _ x Hx hj (p.sub.low e4) y
          obtain ⟨Nu, u1, u3, u2, back⟩ := p.turn hD e4 gx
          rw [List.drop_eq_getElem_cons hj] at hrest
          have hxe : zs[j] = xv := by rw [List.getElem?_eq_getElem hj] at hxi; exact Option.some.inj hxi
          rw [hxe] at hrest
          obtain ⟨e5, b, hput, hb, hways⟩ := compL_cons hrest
          refine hp1 Nu Hx (L2.wipe (setsS (L2.wipe σ own) l0) own1) (wipeE e1 own1) x xv e5 u2 (rx.mono u1) hput _ fun l hl he1 => ?_
          refine ⟨by rw [wipe_sets (fun t ht => hsub1 _ (hl t ht).1), wipe_wipe fun v hv => hv], ?_⟩
          have s5 : SV K Nu (setsS (L2.wipe (setsS (L2.wipe σ own) l0) own1) l) e5 := by
            rw [he1]
            exact ((s4.mono (fun a o q => u3 a o (e4 a o q))).wipe own1).sets fun t ht => (hl t ht).2
          refine ht1 Nu Hx _ e5 u2 s5 _ ?_
          rw [hb]
          intro N6 H6 g6
          rcases hways with ⟨rfl, yv, r', hel, hr', hrr'⟩ | ⟨rfl, hr'⟩
          · show te _ H6 _
            refine he N6 H6 _ e5 g6.nh (s5.mono g6.nn) _ ?_
            rw [hel]
            intro N7 H7 g7 v rv
            have p7 := back N7 H7 (g6.trans g7)
            have hlen : acc.length < 16777216 := by
              obtain ⟨Hn, _, _, _, rvs⟩ := p7
              have h2 : acc.length = ys.length := rvs.length
              have h3 : r.length = ys.length + (rest.length + r2.length) := by rw [← hr]; simp only [List.length_append]
              have h4 : rest.length = r'.length + 1 := by rw [hrr']; rfl
              omega
            refine ⟨acc, p7.at, Nat.lt_of_lt_of_le hlen (by rw [line_eq]; exact Nat.le_refl _), N7, acc ++ [v], ys ++ [yv], r', p7.push hD rv, fun a o q => g7.nn a o (g6.nn a o (u3 a o (e4 a o q))), hr', by rw [← hr, hrr', List.append_assoc]; rfl⟩
          · exact ⟨N6, acc, ys, rest, back N6 H6 g6, fun a o q => g6.nn a o (u3 a o (e4 a o q)), hr', hr⟩
        · rintro H' ⟨N', acc, ys, rest, p, e4, hrest, hr⟩
          rw [List.drop_length] at hrest
          cases hrest
          exact ⟨N', acc, ys, r2, p, hr2, hr⟩
      · exact ⟨N3, acc, ys, rest, p3, hr', hr⟩
    · rintro H' ⟨N', acc, ys, rest, ⟨Hn, g2, hn, rfl, hacc⟩, hrest, hr⟩
      rw [List.drop_length] at hrest
      cases hrest
      rw [List.append_nil] at hr
      subst hr
      exact fin N' Hn g2 D acc hn hacc
end
section
variable {X : Cx} {C : Cn} {a b c : Expr} {ta tb tc : TE} {ma mb mc : EX} {pos p : Pos} {es : List Expr}
theorem sf_comp2 {tt tt1 : TT} {mt mt1 : EB} {elt tg iter tg1 iter1 : Expr} {ifs ifs1 : List Expr} {scope : Scope} {own : List (Str × Nat)} {own1 : List Nat} {wi wi1 : TI} {it it1 : EI} {g g1 : TG} {put put1 : Put} {is is1 : List Nat} {te : TE} {me : EX} (F : Fr X C) (hi : SI X C tg iter wi it) (hp : inBlk X scope fun Y => STg Y tg g put is) (ht : inBlk X scope fun Y => STt Y (C0 C) ifs tt mt)
    (hi1 : inBlk X scope fun Y => SI Y (C0 C) tg1 iter1 wi1 it1) (hp1 : inBlk X scope fun Y => STg Y tg1 g1 put1 is1) (ht1 : inBlk X scope fun Y => STt Y (C0 C) ifs1 tt1 mt1)
    (he : inBlk X scope fun Y => SE Y (C0 C) elt te me) (hsub : ∀ i ∈ is, i ∈ own.map (·.2) := by decide) (hsub1 : ∀ i ∈ is1, i ∈ own1 := by decide) (hv : ∀ i ∈ own1, i ∈ own.map (·.2) := by decide) (hN : X.N.Nodup := by assumption) (ok : BlkOk X.N X.env.scope scope own := by exact blkOk_by (by rfl)) (hs : ∀ x, foldedSetIterable iter X.env x = pure x := by intro _; rfl) (hs1 : ∀ env x, foldedSetIterable iter1 env x = pure x := by intro _ _; rfl) :
    SF X C (.ListComp elt [⟨tg, iter, ifs, 0⟩, ⟨tg1, iter1, ifs1, 0⟩] scope pos) (tLc2 wi g tt wi1 g1 tt1 te (own.map (·.2)) own1) (eComp2 it (own.map (·.2)) put mt it1 own1 put1 mt1 me) :=
  ⟨pe_lc2 F.ca hN hi.pi ok hv (fun s H Cc cl fp => (hp s H Cc cl fp).pe) (fun s H Cc cl fp => (ht s H Cc cl fp).pe) (fun s H Cc cl fp => (hi1 s H Cc cl fp).pi) (fun s H Cc cl fp => (hp1 s H Cc cl fp).pe) (fun s H Cc cl fp => (ht1 s H Cc cl fp).pe) (fun s H Cc cl fp => (he s H Cc cl fp).pe) hs hs1,
   ef_comp2 hi.ev (hp X.s_0 X.H_0 0 [] []).ev hsub (ht X.s_0 X.H_0 0 [] []).ev (hi1 X.s_0 X.H_0 0 [] []).ev (hp1 X.s_0 X.H_0 0 [] []).ev hsub1 (ht1 X.s_0 X.H_0 0 [] []).ev (he X.s_0 X.H_0 0 [] []).ev⟩
theorem comp2_lst {it it1 : EI} {own own1 : List Nat} {put put1 : Put} {mt mt1 : EB} {me : EX} (env : Env) (x : Val) (h : eComp2 it own put mt it1 own1 put1 mt1 me env = .ok x) : ∃ xs, x = .lst xs := by
  unfold eComp2 at h
  cases hm : it env with
  | ok ys =>
    rw [hm] at h
    simp only [Res.bind_ok] at h
    cases hq : compL2 put mt it1 own1 put1 mt1 me (wipeE env own) ys with
    | ok r => 
      rw [hq] at h
      simp only [Res.bind_ok] at h
      split at h
      · cases h; exact ⟨_, rfl⟩
      · cases h
    | exc e => rw [hq] at h; cases h
    | bad => rw [hq] at h; cases h
  | exc e => rw [hm] at h; cases h
  | bad => rw [hm] at h; cases h
theorem SF.comp2 {it it1 : EI} {own own1 : List Nat} {put put1 : Put} {mt mt1 : EB} {te : TE} {me : EX} (h : SF X C a te (eComp2 it own put mt it1 own1 put1 mt1 me)) : SE X C a te (eComp2 it own put mt it1 own1 put1 mt1 me) := ⟨h.pe, EvF.e comp2_lst h.ev⟩
end
end Vm
noncomputable section
namespace Vm
open PySem L2 PyProof.Rows
def hasK (st : Option (List Key → Bool)) (ks : List Key) : Bool := match st with
  | some f => f ks
  | none => true
def keysV : List Value → Option (List Key)
  | [] => some []
  | .int i _ :: r => (keysV r).map (.inl i :: ·)
  | .str x _ :: r => (keysV r).map (.inr x :: ·)
  | _ :: _ => none
def ktB (st : Option (List Key → Bool)) (K : PySem.W.Frag) : Bool := K.all fun p => match p.2.data with
  | .seq its _ => !decide (p.2.cls = .type "tuple") || (match keysV its.toList with
    | some ks => hasK st ks
    | none => true)
  | _ => true
def st_Pairs (ks : List Key) : Bool := !(decide (ks.length = 2) && ks.all fun k => k.isLeft)
end Vm
namespace Vm
namespace K20
open PySem L2 PyProof.Rows
def v_CONSTANTS : List (Str × Val) := [("tie0", .int 0), ("tie1", .int 1)]
def v_NANDS : Val := .tup [.str "not", .str "nand2", .str "nand3"]
def tb_GatesError : List (Str × Bool) := [("NoSuchThing", true), ("TooLarge", true)]
def ti_TooLarge : List (Str × Bool) := [("NoSuchThing", false), ("TooLarge", true)]
abbrev T (i : Nat) : Stmt := PySem.Challenge.pw_gatesread_k20_tests_show_all_flaws.main.body.getD i (.Pass ⟨0, 0, 0, 0⟩)
def d__law_parts : He.DefD := ⟨("_law_parts", none), "_law_parts", "_law_parts", defArgs (T 27), defBody (T 27), defScope (T 27), [], []⟩
def d__law_cell : He.DefD := ⟨("_law_cell", none), "_law_cell", "_law_cell", defArgs (T 26), defBody (T 26), defScope (T 26), [], []⟩
def d__law_bare : He.DefD := ⟨("_law_bare", none), "_law_bare", "_law_bare", defArgs (T 37), defBody (T 37), defScope (T 37), [], []⟩
def d_latch_cells : He.DefD := ⟨("latch_cells", none), "latch_cells", "latch_cells", defArgs (T 9), defBody (T 9), defScope (T 9), [], []⟩
def d_bit_count : He.DefD := ⟨("bit_count", none), "bit_count", "bit_count", defArgs (T 12), defBody (T 12), defScope (T 12), [], []⟩
def d_case_count : He.DefD := ⟨("case_count", none), "case_count", "case_count", defArgs (T 13), defBody (T 13), defScope (T 13), [], []⟩
def d_check_size : He.DefD := ⟨("check_size", none), "check_size", "check_size", defArgs (T 20), defBody (T 20), defScope (T 20), [], []⟩
def d_all_flaws : He.DefD := ⟨("all_flaws", none), "all_flaws", "all_flaws", defArgs (T 21), defBody (T 21), defScope (T 21), [], []⟩
def d_check_flaw : He.DefD := ⟨("check_flaw", none), "check_flaw", "check_flaw", defArgs (T 15), defBody (T 15), defScope (T 15), [], []⟩
def d_case_bits : He.DefD := ⟨("case_bits", none), "case_bits", "case_bits", defArgs (T 14), defBody (T 14), defScope (T 14), [], []⟩
def d_cell_value : He.DefD := ⟨("cell_value", none), "cell_value", "cell_value", defArgs (T 7), defBody (T 7), defScope (T 7), [], []⟩
def d_settled_values : He.DefD := ⟨("settled_values", none), "settled_values", "settled_values", defArgs (T 10), defBody (T 10), defScope (T 10), [], []⟩
def d_answers : He.DefD := ⟨("answers", none), "answers", "answers", defArgs (T 16), defBody (T 16), defScope (T 16), [], []⟩
def d_shows : He.DefD := ⟨("shows", none), "shows", "shows", defArgs (T 17), defBody (T 17), defScope (T 17), [], []⟩
def d_make_tests : He.DefD := ⟨("make_tests", none), "make_tests", "make_tests", defArgs (T 24), defBody (T 24), defScope (T 24), [], []⟩
def d__law_cases : He.DefD := ⟨("_law_cases", none), "_law_cases", "_law_cases", defArgs (T 34), defBody (T 34), defScope (T 34), [], []⟩
def d__law_value : He.DefD := ⟨("_law_value", none), "_law_value", "_law_value", defArgs (T 32), defBody (T 32), defScope (T 32), [], []⟩
def d__law_answers : He.DefD := ⟨("_law_answers", none), "_law_answers", "_law_answers", defArgs (T 33), defBody (T 33), defScope (T 33), [], []⟩
def d__law_shown : He.DefD := ⟨("_law_shown", none), "_law_shown", "_law_shown", defArgs (T 36), defBody (T 36), defScope (T 36), [], []⟩
def d_first_case : He.DefD := ⟨("first_case", none), "first_case", "first_case", defArgs (T 22), defBody (T 22), defScope (T 22), [], []⟩
def d_hidden_flaws : He.DefD := ⟨("hidden_flaws", none), "hidden_flaws", "hidden_flaws", defArgs (T 23), defBody (T 23), defScope (T 23), [], []⟩
def d__law_refuses : He.DefD := ⟨("_law_refuses", none), "_law_refuses", "_law_refuses", defArgs (T 35), defBody (T 35), defScope (T 35), [], []⟩
def d__law_kind : He.DefD := ⟨("_law_kind", none), "_law_kind", "_law_kind", defArgs (T 29), defBody (T 29), defScope (T 29), [], []⟩
def d__law_drawn : He.DefD := ⟨("_law_drawn", none), "_law_drawn", "_law_drawn", defArgs (T 30), defBody (T 30), defScope (T 30), [], []⟩
def d__law_circuit : He.DefD := ⟨("_law_circuit", none), "_law_circuit", "_law_circuit", defArgs (T 31), defBody (T 31), defScope (T 31), [], []⟩
def d__law_is_integer : He.DefD := ⟨("_law_is_integer", none), "_law_is_integer", "_law_is_integer", defArgs (T 28), defBody (T 28), defScope (T 28), [], []⟩
def d_law : He.DefD := ⟨("law", none), "law", "law", defArgs (T 38), defBody (T 38), defScope (T 38), [], []⟩
def hFn : List He.DefD := [d__law_parts, d__law_cell, d__law_bare, d_latch_cells, d_bit_count, d_case_count, d_check_size, d_all_flaws, d_check_flaw, d_case_bits, d_cell_value, d_settled_values, d_answers, d_shows, d_make_tests, d__law_cases, d__law_value, d__law_answers, d__law_shown, d_first_case, d_hidden_flaws, d__law_refuses, d__law_kind, d__law_drawn, d__law_circuit, d__law_is_integer, d_law]
def hFa : List He.Fa := [.free "range", .free "len", .free "int", .free "tuple", .free "all", .free "any", .free "enumerate", .free "list", .free "max", .free "sum", .free "isinstance", .free "min", .free "bool", .int "MOST_CASES" 64, .glo "CONSTANTS", .glo "TooLarge", .exc "TooLarge", .glo "NoSuchThing", .exc "NoSuchThing", .glo "GatesError", .exc "GatesError", .glo "TooLarge", .glo "_law_parts", .glo "_law_cell", .glo "_law_bare", .glo "latch_cells", .glo "bit_count", .glo "case_count", .glo "check_size", .glo "all_flaws", .glo "check_flaw", .glo "case_bits", .glo "cell_value", .glo "settled_values", .glo "answers", .glo "shows", .glo "make_tests", .glo "_law_cases", .glo "_law_value", .glo "_law_answers", .glo "_law_shown", .glo "first_case", .glo "hidden_flaws", .glo "_law_refuses", .glo "_law_kind", .glo "_law_drawn", .glo "_law_circuit", .glo "_law_is_integer", .glo "law"]
def hTs : List He.Tab := [(fun K => He.ga K "CONSTANTS", ["tie0", "tie1"])]
def hEs : List (PySem.W.Frag → Bool) := [fun K => dicB K (He.ga K "CONSTANTS") v_CONSTANTS, fun K => gB K "NANDS" v_NANDS, fun K => tb_GatesError.all fun p => decide (PySem.W.exmOne K (.ref (He.ga K p.1)) (.ref (He.ga K "GatesError")) = some p.2), fun K => ti_TooLarge.all fun p => excCB K p.1 && decide (PySem.W.kitOne K (.ref (He.ga K p.1)) (clsV K "TooLarge") = some p.2), fun K => ktB (some st_Pairs) K]
def hEx (K : PySem.W.Frag) : Bool := hEs.all fun f => f K
def loose : List PySem.Str := "GatesError" :: "NoSuchThing" :: "TooLarge" :: "CONSTANTS" :: "NANDS" :: "cell_value" :: "latch_cells" :: "settled_values" :: "bit_count" :: "case_count" :: "case_bits" :: "check_flaw" :: "answers" :: "shows" :: "MOST_CASES" :: "check_size" :: "all_flaws" :: "first_case" :: "hidden_flaws" :: "make_tests" :: "_law_cell" :: "_law_parts" :: "_law_is_integer" :: "_law_kind" :: "_law_drawn" :: "_law_circuit" :: "_law_value" :: "_law_answers" :: "_law_cases" :: "_law_refuses" :: "_law_shown" :: "_law_bare" :: []
abbrev RwL : PySem.W.OpenRow := PySem.W.OpenLaw.row PySem.Challenge.rw_gatesread_k20_tests_show_all_flaws
abbrev hk : PySem.W.Hook := He.hookX 4 hFa hFn hTs [] hEx
def ob (s : PySem.W.SharedT) : He.AlX := He.obsX 4 hFa hFn hTs [] hEx (HandSHeadRun.getT s)
theorem ob_eq (s : PySem.W.SharedT) : ob s = hk.obs s.abs := He.obsX_eq (HandSHeadRun.getT_eq s)
theorem hrunF (w : World) : HandSHeadRun.RunEq RwL (PySem.W.view RwL.prog [38]) hk ob 4000 loose (w.withFollow "special-get-raises" false) := fun os => by kernel_rfl
theorem hrunT (w : World) : HandSHeadRun.RunEq RwL (PySem.W.view RwL.prog [38]) hk ob 4000 loose (w.withFollow "special-get-raises" true) := fun os => by kernel_rfl
theorem hrun (w : World) : HandSHeadRun.RunEq RwL (PySem.W.view RwL.prog [38]) hk ob 4000 loose w :=
  PySem.W.byRow2 "special-get-raises" (P := fun w => HandSHeadRun.RunEq RwL (PySem.W.view RwL.prog [38]) hk ob 4000 loose w) hrunF hrunT w
end K20
end Vm
end
namespace Vm
open PySem L2 PyProof.Rows
variable [TabsOf]
/-- a step into a tree -/
inductive Stp where
  | ix (j : Nat)
  | ky (k : Key)
  | fl (f : Str)
def lookK : List (Key × Tr) → Key → Option Tr
  | [], _ => none
  | (q, t) :: r, k => if q = k then some t else lookK r k
def modK (g : Tr → Tr) : List (Key × Tr) → Key → List (Key × Tr)
  | [], _ => []
  | (q, t) :: r, k => if q = k then (q, g t) :: r else (q, t) :: modK g r k
def lookF : List (Str × Tr) → Str → Option Tr
  | [], _ => none
  | (q, t) :: r, k => if q = k then some t else lookF r k
def modF (g : Tr → Tr) : List (Str × Tr) → Str → List (Str × Tr)
  | [], _ => []
  | (q, t) :: r, k => if q = k then (q, g t) :: r else (q, t) :: modF g r k
def modL (g : Tr → Tr) : List Tr → Nat → List Tr
  | [], _ => []
  | t :: r, 0 => g t :: r
  | t :: r, j + 1 => t :: modL g r j
def getAt : List Stp → Tr → Option Tr
  | [], t => some t
  | .ix j :: p, .l ts => (match ts[j]? with
    | some t => getAt p t
    | none => none)
  | .ky k :: p, .d ts => (match lookK ts k with
    | some t => getAt p t
    | none => none)
  | .fl f :: p, .o _ ts => (match lookF ts f with
    | some t => getAt p t
    | none => none)
  | _, _ => none
def setAt : List Stp → Tr → Tr → Tr
  | [], u, _ => u
  | .ix j :: p, u, .l ts => .l (modL (setAt p u) ts j)
  | .ky k :: p, u, .d ts => .d (modK (setAt p u) ts k)
  | .fl f :: p, u, .o c ts => .o c (modF (setAt p u) ts f)
  | _, _, t => t
/-- where the things of a tree stand -/
def addrAt (H : Hp) : List Stp → V → Option V
  | [], v => some v
  | .ix j :: p, .ref a => (match H a with
    | some (.lst vs) => (match vs[j]? with
      | some v => addrAt H p v
      | none => none)
    | _ => none)
  | .ky k :: p, .ref a => (match H a with
    | some (.dK vs) => (match valV vs k with
      | some v => addrAt H p v
      | none => none)
    | _ => none)
  | .fl f :: p, .ref a => (match H a with
    | some (.ins _ _ vs) => (match vs.lookup f with
      | some v => addrAt H p v
      | none => none)
    | _ => none)
  | _, _ => none
section
variable {K : PySem.W.Frag} {M H : Hp}
theorem RTl.foc : ∀ (ts : List Tr) {vs : List V} {f : List Addr} {j : Nat} {t : Tr}, RTl K M H vs ts f → ts[j]? = some t → ∃ v f1 f' f2, vs[j]? = some v ∧ RT K M H v t f' ∧ f = f1 ++ (f' ++ f2) ∧
    ∀ {M' H' : Hp} {g : Tr → Tr} {f'' : List Addr}, Sub M M' → (∀ a ∈ f1 ++ f2, H' a = H a) → RT K M' H' v (g t) f'' → RTl K M' H' vs (modL g ts j) (f1 ++ (f'' ++ f2))
  | [], _, _, j, _, _, h => by simp at h
  | t :: ts, _, _, 0, t', .cons (f := f) (fs := fs) r r', h => by
    simp at h
    subst h
    refine ⟨_, [], f, fs, rfl, r, rfl, fun em eh q => ?_⟩
    rw [List.nil_append]
    exact .cons q (RTl.mono em ts (fun a ha => eh a (by simpa using ha)) r')
  | t :: ts, _, _, j + 1, t', .cons (f := f) (fs := fs) r r', h => by
    obtain ⟨v, f1, f', f2, h1, h2, h3, h4⟩ := RTl.foc ts r' (j := j) (t := t') (by simpa using h)
    refine ⟨v, f ++ f1, f', f2, by simpa using h1, h2, by rw [h3, List.append_assoc], fun em eh q => ?_⟩
    rw [List.append_assoc]
    refine .cons (RT.mono em t (fun a ha => eh a (by simp [ha])) r) (h4 em (fun a ha => eh a ?_) q)
    simp only [List.mem_append] at ha ⊢
    rcases ha with ha | ha <;> simp [ha]
theorem RTd.foc : ∀ (ts : List (Key × Tr)) {vs : List (L2.Key × V)} {f : List Addr} {k : Key} {t : Tr}, RTd K M H vs ts f → lookK ts k = some t → ∃ v f1 f' f2, valV vs k = some v ∧ RT K M H v t f' ∧ f = f1 ++ (f' ++ f2) ∧
    ∀ {M' H' : Hp} {g : Tr → Tr} {f'' : List Addr}, Sub M M' → (∀ a ∈ f1 ++ f2, H' a = H a) → RT K M' H' v (g t) f'' → RTd K M' H' vs (modK g ts k) (f1 ++ (f'' ++ f2))
  | [], _, _, k, _, _, h => by cases h
  | (q, t) :: ts, _, _, k, t', .cons (v := v) (vs := vs) (f := f) (fs := fs) r r', h => by
    unfold lookK at h
    split at h
    · rename_i hq
      cases h
      refine ⟨_, [], f, fs, ?_, r, rfl, fun em eh q' => ?_⟩
      · unfold valV; rw [List.find?_cons]; simp [hq]
      · unfold modK
        rw [if_pos hq, List.nil_append]
        exact .cons q' (RTd.mono em ts (fun a ha => eh a (by simpa using ha)) r')
    · rename_i hq
      obtain ⟨v', f1, f', f2, h1, h2, h3, h4⟩ := RTd.foc ts r' h
      refine ⟨v', f ++ f1, f', f2, ?_, h2, by rw [h3, List.append_assoc], fun em eh q' => ?_⟩
      · unfold valV at h1 ⊢; rw [List.find?_cons]; simp [hq, h1]
      · unfold modK
        rw [if_neg hq, List.append_assoc]
        refine .cons (RT.mono em t (fun a ha => eh a (by simp [ha])) r) (h4 em (fun a ha => eh a ?_) q')
        simp only [List.mem_append] at ha ⊢
        rcases ha with ha | ha <;> simp [ha]
theorem RTo.foc : ∀ (ts : List (Str × Tr)) {vs : List (Str × V)} {f : List Addr} {k : Str} {t : Tr}, RTo K M H vs ts f → lookF ts k = some t → ∃ v f1 f' f2, vs.lookup k = some v ∧ RT K M H v t f' ∧ f = f1 ++ (f' ++ f2) ∧
    ∀ {M' H' : Hp} {g : Tr → Tr} {f'' : List Addr}, Sub M M' → (∀ a ∈ f1 ++ f2, H' a = H a) → RT K M' H' v (g t) f'' → RTo K M' H' vs (modF g ts k) (f1 ++ (f'' ++ f2))
  | [], _, _, k, _, _, h => by cases h
  | (q, t) :: ts, _, _, k, t', .cons (v := v) (vs := vs) (f := f) (fs := fs) r r', h => by
    unfold lookF at h
    split at h
    · rename_i hq
      cases h
      subst hq
      refine ⟨_, [], f, fs, by rw [List.lookup_cons]; simp, r, rfl, fun em eh q' => ?_⟩
      unfold modF
      rw [if_pos rfl, List.nil_append]
      exact .cons q' (RTo.mono em ts (fun a ha => eh a (by simpa using ha)) r')
    · rename_i hq
      obtain ⟨v', f1, f', f2, h1, h2, h3, h4⟩ := RTo.foc ts r' h
      refine ⟨v', f ++ f1, f', f2, ?_, h2, by rw [h3, List.append_assoc], fun em eh q' => ?_⟩
      · rw [List.lookup_cons]
        have : (k == q) = false := by rw [beq_eq_false_iff_ne]; exact fun z => hq z.symm
        rw [this]; exact h1
      · unfold modF
        rw [if_neg hq, List.append_assoc]
        refine .cons (RT.mono em t (fun a ha => eh a (by simp [ha])) r) (h4 em (fun a ha => eh a ?_) q')
        simp only [List.mem_append] at ha ⊢
        rcases ha with ha | ha <;> simp [ha]
theorem RT.foc : ∀ (p : List Stp) {v : V} {t t' : Tr} {f : List Addr}, RT K M H v t f → getAt p t = some t' → ∃ v' f1 f' f2, addrAt H p v = some v' ∧ RT K M H v' t' f' ∧ f = f1 ++ (f' ++ f2) ∧
    ∀ {M' H' : Hp} {u : Tr} {f'' : List Addr}, Sub M M' → (∀ a ∈ f1 ++ f2, H' a = H a) → RT K M' H' v' u f'' → RT K M' H' v (setAt p u t) (f1 ++ (f'' ++ f2))
  | [], w, t, t', f, r, h => by
    cases h
    refine ⟨w, [], f, [], rfl, r, by simp, fun em eh q => ?_⟩
    show RT K _ _ w _ ([] ++ (_ ++ []))
    rw [List.nil_append, List.append_nil]
    exact q
  | .ix j :: p, _, _, t', _, .l (a := a) (vs := vs) (ts := ts) ha r, h => by
    unfold getAt at h
    split at h
    · rename_i t hj
      obtain ⟨v, f1, f', f2, h1, h2, h3, h4⟩ := RTl.foc ts r hj
      obtain ⟨v', g1, g', g2, k1, k2, k3, k4⟩ := RT.foc p h2 h
      subst k3; subst h3
      refine ⟨v', a :: (f1 ++ g1), g', g2 ++ f2, by unfold addrAt; rw [ha]; simp only [h1]; exact k1, k2, by simp, fun {M' H' u f''} em eh q => ?_⟩
      have hR := h4 (M' := M') (H' := H') (g := setAt p u) (f'' := g1 ++ (f'' ++ g2)) em (fun b hb => eh b (by simp only [List.mem_append] at hb; simp only [List.cons_append, List.mem_cons, List.mem_append]; rcases hb with hb | hb <;> simp [hb])) (k4 em (fun b hb => eh b (by simp only [List.mem_append] at hb; simp only [List.cons_append, List.mem_cons, List.mem_append]; rcases hb with hb | hb <;> simp [hb])) q)
      have := RT.l (K := K) (M := M') (H := H') (by rw [eh a (by simp)]; exact ha) hR
      show RT K M' H' (V.ref a) (.l (modL (setAt p u) ts j)) _
      simpa [List.append_assoc] using this
    · cases h
  | .ky k :: p, _, _, t', _, .d (a := a) (vs := vs) (ts := ts) ha r, h => by
    unfold getAt at h
    split at h
    · rename_i t hj
      obtain ⟨v, f1, f', f2, h1, h2, h3, h4⟩ := RTd.foc ts r hj
      obtain ⟨v', g1, g', g2, k1, k2, k3, k4⟩ := RT.foc p h2 h
      subst k3; subst h3
      refine ⟨v', a :: (f1 ++ g1), g', g2 ++ f2, by unfold addrAt; rw [ha]; simp only [h1]; exact k1, k2, by simp, fun {M' H' u f''} em eh q => ?_⟩
      have hR := h4 (M' := M') (H' := H') (g := setAt p u) (f'' := g1 ++ (f'' ++ g2)) em (fun b hb => eh b (by simp only [List.mem_append] at hb; simp only [List.cons_append, List.mem_cons, List.mem_append]; rcases hb with hb | hb <;> simp [hb])) (k4 em (fun b hb => eh b (by simp only [List.mem_append] at hb; simp only [List.cons_append, List.mem_cons, List.mem_append]; rcases hb with hb | hb <;> simp [hb])) q)
      have := RT.d (K := K) (M := M') (H := H') (by rw [eh a (by simp)]; exact ha) hR
      show RT K M' H' (V.ref a) (.d (modK (setAt p u) ts k)) _
      simpa [List.append_assoc] using this
    · cases h
  | .fl k :: p, _, _, t', _, .o (a := a) (dx := dx) (c := c) (vs := vs) (ts := ts) ha hd r, h => by
    unfold getAt at h
    split at h
    · rename_i t hj
      obtain ⟨v, f1, f', f2, h1, h2, h3, h4⟩ := RTo.foc ts r hj
      obtain ⟨v', g1, g', g2, k1, k2, k3, k4⟩ := RT.foc p h2 h
      subst k3; subst h3
      refine ⟨v', a :: dx :: (f1 ++ g1), g', g2 ++ f2, by unfold addrAt; rw [ha]; simp only [h1]; exact k1, k2, by simp, fun {M' H' u f''} em eh q => ?_⟩
      have hR := h4 (M' := M') (H' := H') (g := setAt p u) (f'' := g1 ++ (f'' ++ g2)) em (fun b hb => eh b (by simp only [List.mem_append] at hb; simp only [List.cons_append, List.mem_cons, List.mem_append]; rcases hb with hb | hb <;> simp [hb])) (k4 em (fun b hb => eh b (by simp only [List.mem_append] at hb; simp only [List.cons_append, List.mem_cons, List.mem_append]; rcases hb with hb | hb <;> simp [hb])) q)
      have := RT.o (K := K) (M := M') (H := H') (by rw [eh a (by simp)]; exact ha) (by rw [eh dx (by simp)]; exact hd) hR
      show RT K M' H' (V.ref a) (.o c (modF (setAt p u) ts k)) _
      simpa [List.append_assoc] using this
    · cases h
  | .ix _ :: _, _, _, _, _, .v _, h => by cases h
  | .ix _ :: _, _, _, _, _, .d _ _, h => by cases h
  | .ix _ :: _, _, _, _, _, .dT _ _, h => by cases h
  | .ix _ :: _, _, _, _, _, .o _ _ _, h => by cases h
  | .ky _ :: _, _, _, _, _, .v _, h => by cases h
  | .ky _ :: _, _, _, _, _, .l _ _, h => by cases h
  | .ky _ :: _, _, _, _, _, .dT _ _, h => by cases h
  | .ky _ :: _, _, _, _, _, .o _ _ _, h => by cases h
  | .fl _ :: _, _, _, _, _, .v _, h => by cases h
  | .fl _ :: _, _, _, _, _, .l _ _, h => by cases h
  | .fl _ :: _, _, _, _, _, .d _ _, h => by cases h
  | .fl _ :: _, _, _, _, _, .dT _ _, h => by cases h
end
section
variable {K : PySem.W.Frag} {C : Cn} {B : Bs} {M H : Hp} {σ : L2.St} {env : Env} {fs : List Addr} {D : Ends}
def mkT : Bool → Tr → Slot
  | false, t => .oT t
  | true, t => .me t
theorem SlR1.tree {me : V} {s : Option V} {b : Bool} {t : Tr} {f : List Addr} (h : SlR1 K me M H s (mkT b t) f) : ∃ v, s = some v ∧ RT K M H v t f ∧ ∀ {M' H' : Hp} {t' : Tr} {f' : List Addr}, RT K M' H' v t' f' → SlR1 K me M' H' (some v) (mkT b t') f' := by
  cases b with
  | false =>
    cases h with
    | oT r => exact ⟨_, rfl, r, fun q => .oT q⟩
  | true =>
    cases h with
    | me r => exact ⟨_, rfl, r, fun q => .me q⟩
/-- what a call at f' leaves as it was -/
structure Out (f' : List Addr) (H H' : Hp) : Prop where
  to : ∀ a, a ∉ f' → ∀ o, H a = some o → ntb o = true → H' a = some o
  ne : ∀ a, a ∉ f' → H' a = none → H a = none
  tt : LamX.Tabs TabsOf.T H'
theorem Out.of {f' : List Addr} {H H' : Hp} (t : LamX.Tabs TabsOf.T H) (hk : ∀ a ∈ f', ∃ o, H a = some o ∧ OwnO o) (e : ∀ a, a ∉ f' → ∀ o, H a = some o → H' a = some o) : Out f' H H' := by
  refine ⟨fun a h o q _ => e a h o q, fun a h q => ?_, fun p hp => ?_⟩
  · cases z : H a with
    | none => rfl
    | some o => rw [e a h o z] at q; cases q
  · obtain ⟨ps, h1, h2, h3⟩ := t p hp
    refine ⟨ps, e _ (fun z => ?_) _ h1, h2, fun pos cv hc => ?_⟩
    · obtain ⟨o, q, r⟩ := hk _ z
      rw [h1] at q; cases q; exact r
    · obtain ⟨c, e1, e2⟩ := h3 pos cv hc
      refine ⟨c, e1, e _ (fun z => ?_) _ e2⟩
      obtain ⟨o, q, r⟩ := hk _ z
      rw [e2] at q; cases q; exact r
end
end Vm
namespace Vm
open PySem L2 PyProof.Rows
variable [TabsOf]
def insT (ts : List Tr) (n : Nat) (x : Tr) : List Tr := ts.take n ++ [x] ++ ts.drop n
section
variable {K : PySem.W.Frag} {C : Cn} {B : Bs} {M H : Hp} {σ : L2.St} {env : Env} {fs : List Addr} {D : Ends}
theorem RTl.length : ∀ {ts : List Tr} {vs : List V} {f : List Addr}, RTl K M H vs ts f → vs.length = ts.length
  | [], _, _, .nil => rfl
  | _ :: _, _, _, .cons _ r => congrArg (· + 1) r.length
theorem RTl.append : ∀ {ts us : List Tr} {vs ws : List V} {f g : List Addr}, RTl K M H vs ts f → RTl K M H ws us g → RTl K M H (vs ++ ws) (ts ++ us) (f ++ g)
  | [], _, _, _, _, _, .nil, s => s
  | _ :: _, _, _, _, _, _, .cons h r, s => by rw [List.append_assoc]; exact .cons h (r.append s)
theorem RTl.ins {v : V} {x : Val} (h : RV K M v x) : ∀ {n : Nat} {ts : List Tr} {vs : List V} {f : List Addr}, RTl K M H vs ts f → RTl K M H (vs.take n ++ [v] ++ vs.drop n) (insT ts n (.v x)) f
  | 0, ts, vs, f, r => by
    show RTl K M H ([] ++ [v] ++ vs) ([] ++ [Tr.v x] ++ ts) f
    exact .cons (f := []) (.v h) r
  | n + 1, [], _, _, .nil => .cons (f := []) (fs := []) (.v h) .nil
  | n + 1, _ :: _, _, _, .cons q r => .cons q (RTl.ins h r)
theorem SR.set_un (S : SR K B M H σ env fs) {j : Nat} (hj : j < env.length) (s : Option V) : ∃ fs', SR K B M H (σ.set j s) (env.set j .un) fs' := S.put hj (.un s)
end
end Vm
namespace Vm
open PySem L2 PyProof.Rows
variable [TabsOf]
section
variable {K : PySem.W.Frag} {C : Cn}
def CPT (K : PySem.W.Frag) (N1 H1 : Hp) (D : Addr) (acc : List V) (ts : List Tr) (N' H' : Hp) : Prop := ∃ Hn f, Gr N1 H1 N' Hn ∧ Hn D = none ∧ H' = upd Hn D (.lst acc) ∧ RTl K N' Hn acc ts f ∧ f.Nodup ∧ ∀ a ∈ f, N' a = none ∧ H1 a = none
section
variable {N1 H1 N' H' : Hp} {D : Addr} {acc : List V} {ts : List Tr}
theorem CPT.sub (p : CPT K N1 H1 D acc ts N' H') : Inn N' H' := by
  obtain ⟨Hn, f, g, hn, rfl, _⟩ := p
  exact g.nh.newH hn
theorem CPT.nn (p : CPT K N1 H1 D acc ts N' H') : Sub N1 N' := by
  obtain ⟨Hn, f, g, hn, rfl, _⟩ := p
  exact g.nn
theorem CPT.at (p : CPT K N1 H1 D acc ts N' H') : H' D = some (.lst acc) := by
  obtain ⟨Hn, f, g, hn, rfl, _⟩ := p
  exact upd_same
theorem CPT.len (p : CPT K N1 H1 D acc ts N' H') : acc.length = ts.length := by
  obtain ⟨Hn, f, g, hn, rfl, r, _⟩ := p
  exact r.length
theorem CPT.start (hD : H1 D = none) (g : Inn N1 H1) : CPT K N1 H1 D [] [] N1 (upd H1 D (.lst [])) := ⟨H1, [], Gr.refl g, hD, rfl, .nil, .nil, fun a ha => by cases ha⟩
theorem CPT.turn (hD : H1 D = none) (p : CPT K N1 H1 D acc ts N' H') {N0 Nx Hx : Hp} (e0 : Sub N0 N') (gx : Gr N0 H' Nx Hx) :
    ∃ Nu, Sub Nx Nu ∧ Sub N' Nu ∧ Inn Nu Hx ∧ ∀ N4 H4, Gr Nu Hx N4 H4 → CPT K N1 H1 D acc ts N4 H4 := by
  obtain ⟨Hn, f, g2, hn, hH, rt, nd, fr⟩ := p
  have q0 : CP K N1 H1 D acc [] N' H' → True := fun _ => trivial
  subst hH
  have sb' : Inn N' (upd Hn D (.lst acc)) := g2.nh.newH hn
  let Nu : Hp := fun a => if Nx a = none then N' a else Nx a
  have u1 : Sub Nx Nu := fun a o q => by show (if Nx a = none then N' a else Nx a) = some o; rw [if_neg (by rw [q]; simp)]; exact q
  have gu := gx.join sb' e0
  have u2 : Inn Nu Hx := gu.nh
  have u3 : Sub N' Nu := gu.nn
  have nD : N' D = none := by
    cases hq : N' D with
    | none => rfl
    | some o => have := g2.nh D o hq; rw [hn] at this; cases this
  have u4 : ∀ a, Nu a ≠ none → N' a ≠ none ∨ (Hn a = none ∧ a ≠ D) := fun a q => by
    have q' : (if Nx a = none then N' a else Nx a) ≠ none := q
    by_cases hz : Nx a = none
    · rw [if_pos hz] at q'; exact .inl q'
    · rcases gx.nw a hz with h1 | h1
      · cases hq : N0 a with
        | none => exact absurd hq h1
        | some o => exact .inl (by rw [e0 a o hq]; simp)
      · right
        have hne : a ≠ D := fun z => by rw [z, upd_same] at h1; cases h1
        refine ⟨?_, hne⟩
        rw [upd_ne hne] at h1
        exact h1
  have hDx : Hx D = some (.lst acc) := gx.hh.to D _ upd_same rfl
  refine ⟨Nu, u1, u3, u2, fun N4 H4 g4 => ?_⟩
  have n4 : N4 D = none := by
    cases hq : N4 D with
    | none => rfl
    | some o =>
      rcases g4.nw D (by rw [hq]; simp) with h1 | h1
      · rcases u4 D h1 with h2 | h2
        · exact absurd nD h2
        · exact absurd rfl h2.2
      · rw [hDx] at h1; cases h1
  have kn : ∀ b ∈ f, ∃ o, Hn b = some o ∧ Hx b = some o ∧ H4 b = some o ∧ b ≠ D := fun b hb => by
    obtain ⟨o, ho, hw⟩ := RTl.kinds ts rt b hb
    have hne : b ≠ D := ne_of_none ho hn
    have hx := gx.hh.to b o (by rw [upd_ne hne]; exact ho) (own_ntb hw)
    exact ⟨o, ho, hx, g4.hh.to b o hx (own_ntb hw), hne⟩
  refine ⟨fun a => if a = D then none else H4 a, f, ⟨(((g2.hh.upd hD).trans gx.hh).trans g4.hh).hid hD, fun a o q => g4.nn a o (u3 a o (g2.nn a o q)), g4.nh.hid n4 (g4.hh.to D _ hDx rfl), fun a q => ?_⟩, if_pos rfl, ?_, RTl.mono (fun a o q => g4.nn a o (u3 a o q)) ts (fun b hb => ?_) rt, nd, fun b hb => ⟨?_, (fr b hb).2⟩⟩
  · rcases g4.nw a q with h1 | h1
    · rcases u4 a h1 with h2 | h2
      · exact g2.nw a h2
      · exact .inr (g2.hh.free h2.1)
    · right
      exact ((g2.hh.upd hD).trans gx.hh).free h1
  · funext a
    unfold upd
    by_cases ha : a = D
    · rw [if_pos ha, ha]; exact g4.hh.to D _ hDx rfl
    · rw [if_neg ha]
      exact (if_neg ha).symm
  · obtain ⟨o, h1, h2, h3, h4⟩ := kn b hb
    show (if b = D then none else H4 b) = Hn b
    rw [if_neg h4, h3, h1]
  · obtain ⟨o, h1, h2, h3, h4⟩ := kn b hb
    cases hq : N4 b with
    | none => rfl
    | some o' =>
      rcases g4.nw b (by rw [hq]; simp) with k | k
      · rcases u4 b k with k | k
        · exact absurd (fr b hb).1 k
        · rw [h1] at k; cases k.1
      · rw [h2] at k; cases k
theorem CPT.push (hD : H1 D = none) (p : CPT K N1 H1 D acc ts N' H') {H5 : Hp} {v : V} {t : Tr} {fv : List Addr} (e : Sub H' H5) (r : RT K N' H5 v t fv) (nv : fv.Nodup) (fv0 : ∀ a ∈ fv, H' a = none) : CPT K N1 H1 D (acc ++ [v]) (ts ++ [t]) N' (upd H5 D (.lst (acc ++ [v]))) := by
  obtain ⟨Hn, f, g, hn, rfl, rt, nd, fr⟩ := p
  have dn : D ∉ fv := fun h => by have := fv0 D h; rw [upd_same] at this; cases this
  have hnE : ∀ a o, Hn a = some o → H5 a = some o ∧ a ≠ D := fun a o q => by
    have hne : a ≠ D := ne_of_none q hn
    exact ⟨e a o (by rw [upd_ne hne]; exact q), hne⟩
  have r' : RT K N' (fun a => if a = D then none else H5 a) v t fv := RT.mono (Same.refl _) t (fun a ha => if_neg fun (z : a = D) => dn (z ▸ ha)) r
  have rt' : RTl K N' (fun a => if a = D then none else H5 a) acc ts f := RTl.mono (Same.refl _) ts (fun a ha => by
    obtain ⟨o, ho, _⟩ := RTl.kinds ts rt a ha
    obtain ⟨h1, h2⟩ := hnE a o ho
    show (if a = D then none else H5 a) = Hn a
    rw [if_neg h2, h1, ho]) rt
  have hf : ∀ a ∈ fv, Hn a = none := fun a ha => by
    have := fv0 a ha
    rwa [upd_ne (fun (z : a = D) => dn (z ▸ ha))] at this
  refine ⟨fun a => if a = D then none else H5 a, f ++ (fv ++ []), ⟨((g.hh.upd hD).trans (.of e)).hid hD, g.nn, ((g.nh.newH hn).ext e).hid (g.nh.free hn) (e D _ upd_same), g.nw⟩, if_pos rfl, ?_, rt'.append (.cons r' .nil), ?_, fun a ha => ?_⟩
  · funext a
    unfold upd
    by_cases ha : a = D
    · rw [if_pos ha, if_pos ha]
    · rw [if_neg ha, if_neg ha]
      exact (if_neg ha).symm
  · rw [List.append_nil]
    refine List.nodup_append.mpr ⟨nd, nv, fun b hb c hc z => ?_⟩
    subst z
    obtain ⟨o, ho, _⟩ := RTl.kinds ts rt b hb
    rw [hf b hc] at ho
    cases ho
  · rw [List.append_nil] at ha
    rcases List.mem_append.mp ha with ha | ha
    · exact fr a ha
    · refine ⟨?_, g.hh.free (hf a ha)⟩
      cases hq : N' a with
      | none => rfl
      | some o => have := g.nh a o hq; rw [hf a ha] at this; cases this
end
end
end Vm
namespace Vm
open PySem L2 PyProof.Rows
variable [TabsOf]
/-- behind a method: what stays, what is new; fv, fv' what the object owns before and behind -/
structure Aft (N H : Hp) (fv : List Addr) (N' H' : Hp) (fv' : List Addr) : Prop where
  nn : Sub N N'
  nh : Inn N' H'
  out : Out fv H H'
  nw : ∀ a, N' a ≠ none → N a ≠ none ∨ (a ∈ fv ∨ H a = none)
  nd : fv'.Nodup
  fr : ∀ a ∈ fv', N' a = none ∧ (a ∈ fv ∨ H a = none)
end Vm
namespace Vm
open PySem L2 PyProof.Rows
variable [TabsOf]
def keyVal : Key → Val
  | .inl i => .int i
  | .inr s => .str s
section
variable {K : PySem.W.Frag} {C : Cn}
theorem RV.key {N : Hp} (k : Key) : RV K N (kV k) (keyVal k) := by
  cases k with
  | inl i => exact .int i
  | inr s => exact .str s
theorem RKs.len {N : Hp} : ∀ {vs : List (L2.Key × V)} {xs : List (Key × Val)}, RKs K N vs xs → vs.length = xs.length
  | _, _, .nil => rfl
  | _, _, .cons _ r => congrArg (· + 1) (RKs.len r)
variable {M M' H H' : Hp} {me : V} {σ : L2.St} {env : Env} {fs : List Addr} {B : Bs}
end
end Vm
namespace Vm
open PySem L2 PyProof.Rows
variable [TabsOf]
section
variable {K : PySem.W.Frag} {C : Cn} {B : Bs} {M H : Hp} {σ : L2.St} {env : Env} {fs : List Addr} {D : Ends}
/-- where a place stands, what lies ahead of it told -/
theorem RT.adr : ∀ (p : List Stp) {v : V} {t t' : Tr} {f : List Addr}, RT K M H v t f → getAt p t = some t' → ∃ v' f1 f' f2, addrAt H p v = some v' ∧ RT K M H v' t' f' ∧ f = f1 ++ (f' ++ f2) ∧ ∀ {H' : Hp}, (∀ a ∈ f1, H' a = H a) → addrAt H' p v = some v'
  | [], w, t, t', f, r, h => by
    cases h
    exact ⟨w, [], f, [], rfl, r, by simp, fun _ => rfl⟩
  | .ix j :: p, _, _, t', _, .l (a := a) (vs := vs) (ts := ts) ha r, h => by
    unfold getAt at h
    split at h
    · rename_i t hj
      obtain ⟨v, f1, f', f2, h1, h2, h3, _⟩ := RTl.foc ts r hj
      obtain ⟨v', g1, g', g2, k1, k2, k3, k4⟩ := RT.adr p h2 h
      subst k3; subst h3
      refine ⟨v', a :: (f1 ++ g1), g', g2 ++ f2, by unfold addrAt; rw [ha]; simp only [h1]; exact k1, k2, by simp, fun {H'} eh => ?_⟩
      unfold addrAt
      rw [eh a List.mem_cons_self, ha]
      simp only [h1]
      exact k4 fun b hb => eh b (by simp [hb])
    · cases h
  | .ky k :: p, _, _, t', _, .d (a := a) (vs := vs) (ts := ts) ha r, h => by
    unfold getAt at h
    split at h
    · rename_i t hj
      obtain ⟨v, f1, f', f2, h1, h2, h3, _⟩ := RTd.foc ts r hj
      obtain ⟨v', g1, g', g2, k1, k2, k3, k4⟩ := RT.adr p h2 h
      subst k3; subst h3
      refine ⟨v', a :: (f1 ++ g1), g', g2 ++ f2, by unfold addrAt; rw [ha]; simp only [h1]; exact k1, k2, by simp, fun {H'} eh => ?_⟩
      unfold addrAt
      rw [eh a List.mem_cons_self, ha]
      simp only [h1]
      exact k4 fun b hb => eh b (by simp [hb])
    · cases h
  | .fl k :: p, _, _, t', _, .o (a := a) (dx := dx) (c := c) (vs := vs) (ts := ts) ha hd r, h => by
    unfold getAt at h
    split at h
    · rename_i t hj
      obtain ⟨v, f1, f', f2, h1, h2, h3, _⟩ := RTo.foc ts r hj
      obtain ⟨v', g1, g', g2, k1, k2, k3, k4⟩ := RT.adr p h2 h
      subst k3; subst h3
      refine ⟨v', a :: dx :: (f1 ++ g1), g', g2 ++ f2, by unfold addrAt; rw [ha]; simp only [h1]; exact k1, k2, by simp, fun {H'} eh => ?_⟩
      unfold addrAt
      rw [eh a List.mem_cons_self, ha]
      simp only [h1]
      exact k4 fun b hb => eh b (by simp [hb])
    · cases h
  | .ix _ :: _, _, _, _, _, .v _, h => by cases h
  | .ix _ :: _, _, _, _, _, .d _ _, h => by cases h
  | .ix _ :: _, _, _, _, _, .dT _ _, h => by cases h
  | .ix _ :: _, _, _, _, _, .o _ _ _, h => by cases h
  | .ky _ :: _, _, _, _, _, .v _, h => by cases h
  | .ky _ :: _, _, _, _, _, .l _ _, h => by cases h
  | .ky _ :: _, _, _, _, _, .dT _ _, h => by cases h
  | .ky _ :: _, _, _, _, _, .o _ _ _, h => by cases h
  | .fl _ :: _, _, _, _, _, .v _, h => by cases h
  | .fl _ :: _, _, _, _, _, .l _ _, h => by cases h
  | .fl _ :: _, _, _, _, _, .d _ _, h => by cases h
  | .fl _ :: _, _, _, _, _, .dT _ _, h => by cases h
theorem SR.keep (S : SR K B M H σ env fs) {i : Nat} {b : Bool} {t : Tr} {ts : List (Key × Tr)} {p : List Stp} (hi : env[i]? = some (mkT b t)) (hg : getAt p t = some (.d ts)) {v0 : V} {a : Addr} (h1 : σ[i]? = some (some v0)) (h2 : addrAt H p v0 = some (.ref a)) {H' : Hp} (e : ∀ b, b ≠ a → ∀ o, H b = some o → H' b = some o) : addrAt H' p v0 = some (.ref a) := by
  obtain ⟨s0, g1, f, g2, k1, k2, k3, _⟩ := S.sl.at hi
  obtain ⟨v, rfl, r, _⟩ := k3.tree
  rw [h1] at k1
  cases k1
  obtain ⟨v', f1, f', f2, q1, q2, q3, q4⟩ := RT.adr p r hg
  rw [h2] at q1
  cases q1
  cases q2 with
  | @d _ vs _ f0 ha rd =>
    have nd := S.nd
    rw [k2] at nd
    have nd2 : f.Nodup := (List.nodup_append.mp (List.nodup_append.mp nd).2.1).1
    subst q3
    refine q4 fun c hc => ?_
    have hne : c ≠ a := fun z => (List.nodup_append.mp nd2).2.2 c hc a (by simp) z
    obtain ⟨o, ho, _⟩ := RT.kinds t r c (List.mem_append_left _ hc)
    rw [ho, e c hne o ho]
theorem RTd.append : ∀ {ts us : List (Key × Tr)} {vs ws : List (L2.Key × V)} {f g : List Addr}, RTd K M H vs ts f → RTd K M H ws us g → RTd K M H (vs ++ ws) (ts ++ us) (f ++ g)
  | [], _, _, _, _, _, .nil, s => s
  | _ :: _, _, _, _, _, _, .cons h r, s => by rw [List.append_assoc]; exact .cons h (r.append s)
theorem RTd.length : ∀ {ts : List (Key × Tr)} {vs : List (L2.Key × V)} {f : List Addr}, RTd K M H vs ts f → vs.length = ts.length
  | [], _, _, .nil => rfl
  | _ :: _, _, _, .cons _ r => congrArg (· + 1) r.length
end
end Vm
namespace Vm
open PySem L2 PyProof.Rows
variable [TabsOf]
section
variable {K : PySem.W.Frag}
theorem RVs.snoc {N : Hp} : ∀ {vs ws : List V} {xs ys : List Val}, RVs K N vs xs → RVs K N ws ys → RVs K N (vs ++ ws) (xs ++ ys)
  | _, _, _, _, .nil, s => s
  | _, _, _, _, .cons h r, s => .cons h (RVs.snoc r s)
theorem EvFD.e {C : Cn} {te : TE} {m : EX} (hd : ∀ env x, m env = .ok x → ∃ xs, x = .dct xs) (h : EvFD K C te m) : EvE K C te m := fun N H σ env e s Q hp => by
  refine h N H σ env e s Q ?_
  cases hm : m env with
  | bad => rw [hm] at hp; exact hp.elim
  | exc q => rw [hm] at hp; exact hp
  | ok x =>
    rw [hm] at hp
    obtain ⟨xs, rfl⟩ := hd env x hm
    intro N' H' g
    refine ⟨xs, rfl, fun p vs hf r => ?_⟩
    have g2 := g.trans (Gr.new g.nh hf (o := .dK vs))
    exact hp _ _ g2 _ (.dct (.inl upd_same) (RKs.mono (fun a o q => by
      have hn : N' p = none := by
        cases hz : N' p with
        | none => rfl
        | some o' => have := g.nh p o' hz; rw [hf] at this; cases this
      rw [upd_ne (ne_of_none q hn)]; exact q) _ r))
end
end Vm
namespace Vm
open PySem L2 PyProof.Rows
variable [TabsOf]
section
variable {K : PySem.W.Frag} {C : Cn}
theorem RTl.known {M H : Hp} {ts : List Tr} {vs : List V} {f : List Addr} (h : RTl K M H vs ts f) : ∀ a ∈ f, H a ≠ none := fun a ha => by obtain ⟨o, ho, _⟩ := RTl.kinds ts h a ha; rw [ho]; simp
end
end Vm
namespace Vm
open PySem PySem.Spec L2 PyProof.Rows
variable [TabsOf]
section
variable {X : Cx}
abbrev inC (X : Cx) (scope : Scope) (f : Cx → Prop) : Prop := ∀ (s : Shared) (H : Hp) (C : Addr) (cl : List (Str × Addr)) (fp : List Addr), f (X.blk s H scope (compEnvC scope cl C X.env) fp)
end
section
variable {X : Cx} {kx vx tg iter tg1 iter1 : Expr} {ifs ifs1 : List Expr} {scope : Scope} {own : List (Str × Nat)} {vs1 : List Nat} {pos : Pos} {wi wi1 : TI} {g g1 : TG} {tt tt1 : TT} {tk tv : TE}
/-- a comprehension that a local takes on its own line -/
theorem used_ok {pins : List (Addr × Obj)} {s : Shared} {σ : L2.St} {D : Ends} {i : Nat} {y : Str} {py : Pos} {e : Expr} {first : Sem Value} {p : Pos} (hN : X.N.Nodup) (hy : X.N[i]? = some y) (hyl : X.env.scope.names.lookup y = some .local)
    (h : ∀ Qf : Value → Shared → Prop, (∀ D0 C s' m H', Inv X pins σ H' s' → gName i (.ref D0) σ H' D.nx → s'.heap.Ns C m → FpOk X pins H' C → compPost (model X.prog X.w) X.A X.xe (some (assign (.Name y py) X.env)) Qf (.ref D0) C (.ok .next) s') → wpAny (model X.prog X.w) X.A (comprehension e scope X.env p newDict false first (some (assign (.Name y py) X.env))) Qf X.xe s) :
    wpAny (model X.prog X.w) X.A (comprehension e scope X.env p newDict false first (some (assign (.Name y py) X.env))) (fun _ s' => SP X pins D .next s') X.xe s := by
  refine h _ fun L C s' m H' I' q hn f => ?_
  show wpAny _ _ (assign (.Name y py) X.env (.ref L)) _ _ _
  refine wpAny_assign_Name (store_ok2 (v := V.ref L) I' hN hy (.inl hyl) rfl (fun s2 I2 ⟨a, sb, ha⟩ => ?_) (.inr hyl))
  obtain ⟨f0, f1, f2, f3, f4, f5⟩ := f
  have haC : C ≠ a := by
    rcases ha with z | z
    · rw [z]; exact f1
    · exact fun e => f4 y a z e.symm
  refine ⟨m, hn.sameBut sb haC, fun h3 sb3 => ?_⟩
  exact ⟨_, H', I2.turned (t' := s2.toks) (fun b o hb e => (sb3.2 b hb).trans e) f0 f1 f3 f4 f5, q⟩
end
def e2tup (k v : EX) : EX := fun env => (k env).bind fun a => (v env).bind fun b => .ok (.tup [a, b])
theorem Res.bind_assoc' {α β γ : Type} (a : Res α) (f : α → Res β) (g : β → Res γ) : (a.bind f).bind g = a.bind fun x => (f x).bind g := by cases a <;> rfl
theorem e2tup_ok {k v : EX} {env : Env} {x : Val} (h : e2tup k v env = .ok x) : ∃ a b, k env = .ok a ∧ v env = .ok b ∧ x = .tup [a, b] := by
  unfold e2tup at h
  cases h1 : k env with
  | ok a =>
    rw [h1] at h
    simp only [Res.bind_ok] at h
    cases h2 : v env with
    | ok b => rw [h2] at h; cases h; exact ⟨a, b, rfl, rfl, rfl⟩
    | exc e => rw [h2] at h; cases h
    | bad => rw [h2] at h; cases h
  | exc e => rw [h1] at h; cases h
  | bad => rw [h1] at h; cases h
section
variable {K : PySem.W.Frag} {C : Cn}
/-- the new object at D; N' stays -/
def CPo (N1 H1 : Hp) (D : Addr) (ob : HO) (N' H' : Hp) : Prop := ∃ Hn, Gr N1 H1 N' Hn ∧ Hn D = none ∧ H' = upd Hn D ob
section
variable {N1 H1 N' H' : Hp} {D : Addr} {ob : HO}
theorem CPo.sub (p : CPo N1 H1 D ob N' H') : Inn N' H' := by
  obtain ⟨Hn, g, hn, rfl⟩ := p
  exact g.nh.newH hn
theorem CPo.nn (p : CPo N1 H1 D ob N' H') : Sub N1 N' := by
  obtain ⟨Hn, g, hn, rfl⟩ := p
  exact g.nn
theorem CPo.at (p : CPo N1 H1 D ob N' H') : H' D = some ob := by
  obtain ⟨Hn, g, hn, rfl⟩ := p
  exact upd_same
theorem CPo.turn (hD : H1 D = none) (p : CPo N1 H1 D ob N' H') {N0 Nx Hx : Hp} (e0 : Sub N0 N') (gx : Gr N0 H' Nx Hx) (hw : Wr ob = true := by rfl) :
    ∃ Nu, Sub Nx Nu ∧ Sub N' Nu ∧ Inn Nu Hx ∧ ∀ N4 H4, Gr Nu Hx N4 H4 → CPo N1 H1 D ob N4 H4 := by
  have sb' := p.sub
  have hAt := p.at
  obtain ⟨Hn, g2, hn, rfl⟩ := p
  let Nu : Hp := fun a => if Nx a = none then N' a else Nx a
  have u1 : Sub Nx Nu := fun a o q => by show (if Nx a = none then N' a else Nx a) = some o; rw [if_neg (by rw [q]; simp)]; exact q
  have gu := gx.join sb' e0
  have u2 : Inn Nu Hx := gu.nh
  have u3 : Sub N' Nu := gu.nn
  have nD : N' D = none := by
    cases hq : N' D with
    | none => rfl
    | some o => have := g2.nh D o hq; rw [hn] at this; cases this
  have u4 : ∀ a, Nu a ≠ none → N' a ≠ none ∨ (Hn a = none ∧ a ≠ D) := fun a q => by
    have q' : (if Nx a = none then N' a else Nx a) ≠ none := q
    by_cases hz : Nx a = none
    · rw [if_pos hz] at q'; exact .inl q'
    · rcases gx.nw a hz with h1 | h1
      · cases hq : N0 a with
        | none => exact absurd hq h1
        | some o => exact .inl (by rw [e0 a o hq]; simp)
      · right
        have hne : a ≠ D := fun z => by rw [z, upd_same] at h1; cases h1
        refine ⟨?_, hne⟩
        rw [upd_ne hne] at h1
        exact h1
  have hDx : Hx D = some ob := gx.hh.to D _ upd_same (wr_ntb hw)
  refine ⟨Nu, u1, u3, u2, fun N4 H4 g4 => ?_⟩
  have n4 : N4 D = none := by
    cases hq : N4 D with
    | none => rfl
    | some o =>
      rcases g4.nw D (by rw [hq]; simp) with h1 | h1
      · rcases u4 D h1 with h2 | h2
        · exact absurd nD h2
        · exact absurd rfl h2.2
      · rw [hDx] at h1; cases h1
  refine ⟨fun a => if a = D then none else H4 a, ⟨(((g2.hh.upd hD).trans gx.hh).trans g4.hh).hid hD, fun a o q => g4.nn a o (u3 a o (g2.nn a o q)), g4.nh.hid n4 (g4.hh.to D _ hDx (wr_ntb hw)) hw, fun a q => ?_⟩, if_pos rfl, ?_⟩
  · rcases g4.nw a q with h1 | h1
    · rcases u4 a h1 with h2 | h2
      · exact g2.nw a h2
      · exact .inr (g2.hh.free h2.1)
    · right
      exact ((g2.hh.upd hD).trans gx.hh).free h1
  · funext a
    unfold upd
    by_cases ha : a = D
    · rw [if_pos ha, ha]; exact g4.hh.to D _ hDx (wr_ntb hw)
    · rw [if_neg ha]
      exact (if_neg ha).symm
theorem CPo.put (p : CPo N1 H1 D ob N' H') (ob' : HO) : CPo N1 H1 D ob' N' (upd H' D ob') := by
  obtain ⟨Hn, g, hn, rfl⟩ := p
  refine ⟨Hn, g, hn, ?_⟩
  funext a
  unfold upd
  by_cases ha : a = D
  · rw [if_pos ha, if_pos ha]
  · rw [if_neg ha, if_neg ha, if_neg ha]
theorem CPo.start (g : Inn N1 H1) (hD : H1 D = none) : CPo N1 H1 D ob N1 (upd H1 D ob) := ⟨H1, Gr.refl g, hD, rfl⟩
end
end
end Vm
namespace Vm
open PySem L2 PyProof.Rows
variable [TabsOf]
inductive RS (α : Type) where
  | ok (x : α) (e : Env)
  | exc (q : Exn) (e : Env)
  | bad
def RS.bind {α β : Type} : RS α → (α → Env → RS β) → RS β
  | .ok x e, f => f x e
  | .exc q e, _ => .exc q e
  | .bad, _ => .bad
def RS.flow {α : Type} : RS α → (α → Env → Flow) → Flow
  | .ok x e, f => f x e
  | .exc q e, _ => .exc q e
  | .bad, _ => .bad
def Res.rs {α : Type} : Res α → Env → RS α
  | .ok x, e => .ok x e
  | .exc q, e => .exc q e
  | .bad, _ => .bad
@[simp] theorem RS.bind_ok {α β : Type} (a : α) (e : Env) (f : α → Env → RS β) : (RS.ok a e).bind f = f a e := rfl
@[simp] theorem RS.bind_exc {α β : Type} (q : Exn) (e : Env) (f : α → Env → RS β) : (RS.exc q e : RS α).bind f = .exc q e := rfl
@[simp] theorem RS.bind_bad {α β : Type} (f : α → Env → RS β) : (RS.bad : RS α).bind f = .bad := rfl
@[simp] theorem RS.flow_ok {α : Type} (a : α) (e : Env) (f : α → Env → Flow) : (RS.ok a e).flow f = f a e := rfl
@[simp] theorem RS.flow_exc {α : Type} (q : Exn) (e : Env) (f : α → Env → Flow) : (RS.exc q e : RS α).flow f = .exc q e := rfl
@[simp] theorem RS.flow_bad {α : Type} (f : α → Env → Flow) : (RS.bad : RS α).flow f = .bad := rfl
@[simp] theorem Res.rs_ok {α : Type} (a : α) (e : Env) : (Res.ok a).rs e = .ok a e := rfl
@[simp] theorem Res.rs_exc {α : Type} (q : Exn) (e : Env) : (Res.exc q : Res α).rs e = .exc q e := rfl
@[simp] theorem Res.rs_bad {α : Type} (e : Env) : (Res.bad : Res α).rs e = .bad := rfl
abbrev EM := Env → RS Val
abbrev AM := Env → RS (List Val)
abbrev BM := Env → RS Bool
/-- nothing changes in it: over what stays | over all, no list in the value -/
def mH (a : EX) : EM := fun env => (a (hide env)).rs env
def mN (a : EX) : EM := fun env => ((a env).rs env).bind fun x e => if x.noLst = true then .ok x e else .bad
def mNil : AM := fun env => .ok [] env
def mCons (a : EM) (r : AM) : AM := fun env => (a env).bind fun x e => (r e).bind fun xs e' => .ok (x :: xs) e'
def mLst (a : AM) : EM := fun env => (a env).bind fun xs e => (vLst xs).rs e
def mTup (a : AM) : EM := fun env => (a env).bind fun xs e => (vTup xs).rs e
def m1 (f : Val → Res Val) (a : EM) : EM := fun env => (a env).bind fun x e => (f x).rs e
def m2 (f : Val → Val → Res Val) (a b : EM) : EM := fun env => (a env).bind fun x e => (b e).bind fun y e' => (f x y).rs e'
def mIf (t : BM) (a b : EM) : EM := fun env => (t env).bind fun k e => bif k then a e else b e
def mAnd (a b : EM) : EM := fun env => (a env).bind fun x e => ((asBl x).rs e).bind fun k e => bif k then b e else .ok (.bl false) e
def mOr (a b : EM) : EM := fun env => (a env).bind fun x e => ((asBl x).rs e).bind fun k e => bif k then .ok (.bl true) e else b e
def mNot (a : EM) : EM := fun env => (a env).bind fun x e => ((asBl x).rs e).bind fun k e => .ok (.bl (!k)) e
def bmP (t : EB) : BM := fun env => (t env).rs env
def bmV (a : EM) : BM := fun env => (a env).bind fun x e => (asBl x).rs e
def bmT (a : EM) : BM := fun env => (a env).bind fun x e => (truth x).rs e
def bmAnd (a b : BM) : BM := fun env => (a env).bind fun x e => bif x then b e else .ok false e
def bmOr (a b : BM) : BM := fun env => (a env).bind fun x e => bif x then .ok true e else b e
def bmNot (a : BM) : BM := fun env => (a env).bind fun x e => .ok (!x) e
def sSetM (i : Nat) (a : EM) : ST := fun env => (a env).flow fun x e => if i < e.length then .next (e.set i (.sh x)) else .bad
def sDropM (a : EM) : ST := fun env => (a env).flow fun _ e => .next e
def sRetM (a : EM) : ST := fun env => (a env).flow fun x e => .ret x e
def sIfM (t : BM) (a b : ST) : ST := fun env => (t env).flow fun k e => bif k then a e else b e
def PostM {α : Type} (K : PySem.W.Frag) (C : Cn) (B : Bs) (σ : L2.St) (r : RS α) (P : α → Env → Hp → Hp → List Addr → Prop) : Prop := match r with
  | .ok x e => ∀ M H fs, SR K B M H σ e fs → P x e M H fs
  | .exc q e => ∃ w, C.W = some w ∧ ∀ cls d M H fs, SR K B M H σ e fs → C.XR H cls d q → w cls d σ H
  | .bad => False
section
variable {α β : Type} {K : PySem.W.Frag} {C : Cn} {B : Bs} {M H : Hp} {σ : L2.St} {env : Env} {fs : List Addr} {r : RS α} {P P' : α → Env → Hp → Hp → List Addr → Prop}
theorem PostM.bind {f : α → Env → RS β} {P : β → Env → Hp → Hp → List Addr → Prop} (h : PostM K C B σ (r.bind f) P) : PostM K C B σ r (fun x e M H fs => PostM K C B σ (f x e) P) := by
  cases r with
  | ok x e => exact fun M H fs _ => h
  | exc q e => exact h
  | bad => exact h
theorem PostM.imp (h : PostM K C B σ r P) (k : ∀ x e M H fs, SR K B M H σ e fs → P x e M H fs → P' x e M H fs) : PostM K C B σ r P' := by
  cases r with
  | ok x e => exact fun M H fs S => k x e M H fs S (h M H fs S)
  | exc q e => exact h
  | bad => exact h
theorem PostM.low {M1 : Hp} (e1 : Sub B.l M1) (h : PostM K C B σ r P) : PostM K C { B with l := M1 } σ r (fun x e M H fs => SR K B M H σ e fs ∧ Sub M1 M ∧ P x e M H fs) := by
  cases r with
  | ok x e => exact fun M H fs S => ⟨S.of_low e1, S.lo, h M H fs (S.of_low e1)⟩
  | exc q e =>
    obtain ⟨w, h1, h2⟩ := h
    exact ⟨w, h1, fun cls d M H fs S hx => h2 cls d M H fs (S.of_low e1) hx⟩
  | bad => exact h
theorem PostM.flow {D : Ends} {f : α → Env → Flow} (h : PostF K C B D (r.flow f)) : PostM K C B σ r (fun x e M H fs => PostF K C B D (f x e)) := by
  cases r with
  | ok x e => exact fun M H fs _ => h
  | exc q e =>
    obtain ⟨w, h1, h2⟩ := h
    exact ⟨w, h1, fun cls d M H fs S hx => h2 cls d M H σ fs S hx⟩
  | bad => exact h
/-- what an operation made -/
theorem PostM.res {a : Res α} {P : α → Env → Hp → Hp → List Addr → Prop} (n : NX a) (h : PostM K C B σ (a.rs env) P) : ∃ z, a = .ok z ∧ ∀ M H fs, SR K B M H σ env fs → P z env M H fs := by
  cases a with
  | ok x => exact ⟨x, rfl, h⟩
  | exc e => exact absurd rfl (n e)
  | bad => exact h.elim
end
def EvM (K : PySem.W.Frag) (C : Cn) (te : TE) (m : EM) : Prop := ∀ B M H σ env fs, SR K B M H σ env fs → ∀ Q : VK, PostM K C B σ (m env) (fun x _ M' H' _ => ∀ v, RV K M' v x → Q v H') → te σ H Q
def EvAM (K : PySem.W.Frag) (C : Cn) (ta : TA) (m : AM) : Prop := ∀ B M H σ env fs, SR K B M H σ env fs → ∀ Q : List V → Hp → Prop, PostM K C B σ (m env) (fun xs _ M' H' _ => ∀ vs, RVs K M' vs xs → Q vs H') → ta σ H Q
def EvBM (K : PySem.W.Frag) (C : Cn) (tt : TT) (m : BM) : Prop := ∀ B M H σ env fs, SR K B M H σ env fs → ∀ Q : Bool → Hp → Prop, PostM K C B σ (m env) (fun b _ _ H' _ => Q b H') → tt σ H Q
section
variable {K : PySem.W.Frag} {C : Cn} {B : Bs} {M H : Hp} {σ : L2.St} {env : Env} {fs : List Addr} {ta tb te : TE} {ma mb : EM} {t : TA} {m : AM} {D : Ends}
/-- with the state behind it -/
theorem EvM.go (ha : EvM K C te ma) (S : SR K B M H σ env fs) {Q : VK} (h : PostM K C B σ (ma env) (fun x e M' H' fs' => SR K B M' H' σ e fs' → Sub M M' → ∀ v, RV K M' v x → Q v H')) : te σ H Q := by
  refine ha { B with l := M } M H σ env fs (S.at_low (Same.refl _)) Q (PostM.imp (PostM.low S.lo h) ?_)
  rintro x e M' H' fs' _ ⟨S', l, h⟩ v rv
  exact h S' l v rv
theorem EvAM.go (ha : EvAM K C t m) (S : SR K B M H σ env fs) {Q : List V → Hp → Prop} (h : PostM K C B σ (m env) (fun xs e M' H' fs' => SR K B M' H' σ e fs' → Sub M M' → ∀ vs, RVs K M' vs xs → Q vs H')) : t σ H Q := by
  refine ha { B with l := M } M H σ env fs (S.at_low (Same.refl _)) Q (PostM.imp (PostM.low S.lo h) ?_)
  rintro x e M' H' fs' _ ⟨S', l, h⟩ v rv
  exact h S' l v rv
theorem EvBM.go {tt : TT} {mt : BM} (ha : EvBM K C tt mt) (S : SR K B M H σ env fs) {Q : Bool → Hp → Prop} (h : PostM K C B σ (mt env) (fun b e M' H' fs' => SR K B M' H' σ e fs' → Q b H')) : tt σ H Q := by
  refine ha B M H σ env fs S Q (PostM.imp h ?_)
  intro x e M' H' fs' S' h
  exact h S'
/-- the place's tree, and how it changes, what stays growing -/
theorem SR.foc2 (S : SR K B M H σ env fs) {i : Nat} {b : Bool} {t t' : Tr} {p : List Stp} (hi : env[i]? = some (mkT b t)) (hg : getAt p t = some t') : ∃ v0 v' f', σ[i]? = some (some v0) ∧ addrAt H p v0 = some v' ∧ RT K M H v' t' f' ∧ f'.Nodup ∧ (∀ a ∈ f', a ∈ fs) ∧
    ∀ {N' H' : Hp} {u : Tr} {f'' : List Addr}, Aft M H f' N' H' f'' → RT K N' H' v' u f'' → ∃ fs', SR K B N' H' σ (env.set i (mkT b (setAt p u t))) fs' := by
  obtain ⟨s0, g1, f, g2, h1, h2, h3, h4⟩ := S.sl.at hi
  obtain ⟨v, rfl, r, mk⟩ := h3.tree
  obtain ⟨v', f1, f', f2, k1, k2, k3, k4⟩ := RT.foc p r hg
  subst k3
  have nd := S.nd
  rw [h2] at nd
  have nd2 : (f1 ++ (f' ++ f2)).Nodup := (List.nodup_append.mp (List.nodup_append.mp nd).2.1).1
  have nd3 : f'.Nodup := (List.nodup_append.mp (List.nodup_append.mp nd2).2.1).1
  have sub : ∀ a ∈ f', a ∈ fs := fun a ha => by rw [h2]; simp [ha]
  refine ⟨v, v', f', h1, k1, k2, nd3, sub, fun {N' H' u f''} A q => ?_⟩
  have hset : σ.set i (some v) = σ := by
    obtain ⟨hl, he⟩ := List.getElem?_eq_some_iff.mp h1
    rw [← he, List.set_getElem_self]
  have out : ∀ a, a ∈ fs → a ∉ f' → H' a = H a := fun a ha hn => by
    obtain ⟨o, hq, ho⟩ := S.sl.kinds a ha
    rw [hq, A.out.to a hn o hq (own_ntb ho)]
  have n1 : ∀ a ∈ f1 ++ f2, a ∉ f' := fun a ha hb => by
    rcases List.mem_append.mp ha with ha | ha
    · exact (List.nodup_append.mp nd2).2.2 a ha a (by simp [hb]) rfl
    · exact (List.nodup_append.mp (List.nodup_append.mp nd2).2.1).2.2 a hb a ha rfl
  have n2 : ∀ a ∈ g1 ++ g2, a ∉ f1 ++ (f' ++ f2) := fun a ha hb => by
    rcases List.mem_append.mp ha with ha | ha
    · exact (List.nodup_append.mp nd).2.2 a ha a (List.mem_append_left _ hb) rfl
    · exact (List.nodup_append.mp (List.nodup_append.mp nd).2.1).2.2 a hb a ha rfl
  have q2 := k4 (M' := N') (H' := H') A.nn (fun a ha => out a (by
    rw [h2]
    simp only [List.mem_append] at ha ⊢
    rcases ha with ha | ha <;> simp [ha]) (n1 a ha)) q
  have hsl := h4 (M' := N') (H' := H') (s' := some v) (e' := mkT b (setAt p u t)) (f' := f1 ++ (f'' ++ f2)) A.nn (fun a ha => out a (by
    rw [h2]
    simp only [List.mem_append] at ha ⊢
    rcases ha with ha | ha <;> simp [ha]) fun hb => n2 a ha (by simp [hb])) (mk q2)
  rw [hset] at hsl
  have newf : ∀ a ∈ f'', a ∈ fs → a ∈ f' := fun a ha hb => by
    rcases (A.fr a ha).2 with h | h
    · exact h
    · exact absurd h (S.sl.known a hb)
  refine ⟨_, ⟨⟨fun b o qq nq => ?_, fun b qq => ?_⟩, S.g.nn.trans A.nn, A.nh, fun a qq => ?_⟩, S.lo.trans A.nn, fun a ha => ?_, ?_, hsl⟩
  · refine A.out.to b (fun hb => ?_) o (S.g.hh.to b o qq nq) nq
    rw [(S.fr b (sub b hb)).2] at qq; cases qq
  · by_cases hb : b ∈ f'
    · exact (S.fr b (sub b hb)).2
    · exact S.g.hh.ne b (A.out.ne b hb qq)
  · rcases A.nw a qq with h | h | h
    · exact S.g.nw a h
    · exact .inr (S.fr a (sub a h)).2
    · exact .inr (S.g.hh.free h)
  · by_cases hf : a ∈ f''
    · refine ⟨(A.fr a hf).1, ?_⟩
      rcases (A.fr a hf).2 with h | h
      · exact (S.fr a (sub a h)).2
      · exact S.g.hh.free h
    · have hfs : a ∈ fs := by
        rw [h2]
        simp only [List.mem_append] at ha ⊢
        rcases ha with ha | (ha | ha | ha) | ha
        · simp [ha]
        · simp [ha]
        · exact absurd ha hf
        · simp [ha]
        · simp [ha]
      have hn : a ∉ f' := by
        simp only [List.mem_append] at ha
        rcases ha with ha | (ha | ha | ha) | ha
        · exact fun hb => n2 a (by simp [ha]) (by simp [hb])
        · exact fun hb => n1 a (by simp [ha]) hb
        · exact absurd ha hf
        · exact fun hb => n1 a (by simp [ha]) hb
        · exact fun hb => n2 a (by simp [ha]) (by simp [hb])
      refine ⟨?_, (S.fr a hfs).2⟩
      cases hq : N' a with
      | none => rfl
      | some o =>
        rcases A.nw a (by rw [hq]; simp) with h | h | h
        · exact absurd (S.fr a hfs).1 h
        · exact absurd h hn
        · exact absurd h (S.sl.known a hfs)
  · refine nodup_mid nd ?_ fun a ha hb => ?_
    · refine nodup_mid nd2 A.nd fun a ha hb => ?_
      exact n1 a hb (newf a ha (by
        rw [h2]
        simp only [List.mem_append] at hb ⊢
        rcases hb with hb | hb <;> simp [hb]))
    · simp only [List.mem_append] at ha
      have hfs : a ∈ fs := by
        rw [h2]
        simp only [List.mem_append] at hb ⊢
        rcases hb with hb | hb <;> simp [hb]
      rcases ha with ha | ha | ha
      · exact n2 a hb (by simp [ha])
      · exact n2 a hb (by simp [newf a ha hfs])
      · exact n2 a hb (by simp [ha])
end
end Vm
namespace Vm
open PySem L2 PyProof.Rows
variable [TabsOf]
section
variable {α β : Type} {K : PySem.W.Frag} {C : Cn} {B : Bs} {M H : Hp} {σ : L2.St} {env : Env} {fs : List Addr} {ta tb te : TE} {ma mb : EM} {t : TA} {m : AM} {D : Ends}
/-- f(e, ..), f changes nothing, its arguments may -/
def mFn (f : Fn) (a : AM) : EM := fun env => (a env).bind fun xs e => ((f xs).res).rs e
def mArgs (f : List Val → Res Val) (a : AM) : EM := fun env => (a env).bind fun xs e => (f xs).rs e
theorem PostM.asBl {x : Val} {f : Bool → Env → RS β} {P : β → Env → Hp → Hp → List Addr → Prop} (h : PostM K C B σ (((asBl x).rs env).bind f) P) : ∃ k, x = .bl k ∧ PostM K C B σ (f k env) P := by
  cases x with
  | bl k => exact ⟨k, rfl, h⟩
  | _ => exact h.elim
end
end Vm
namespace Vm
open PySem L2 PyProof.Rows
variable [TabsOf]
section
variable {K : PySem.W.Frag} {C : Cn} {B : Bs} {M H : Hp} {σ : L2.St} {env : Env} {fs : List Addr} {ta tb te : TE} {ma mb : EM} {t : TA} {m : AM} {D : Ends}
theorem RTo.len : ∀ {ts : List (Str × Tr)} {vs : List (Str × V)} {f : List Addr}, RTo K M H vs ts f → vs.length = ts.length
  | [], _, _, .nil => rfl
  | _ :: _, _, _, .cons _ r => congrArg (· + 1) r.len
end
end Vm
namespace Vm
open PySem L2 PyProof.Rows
variable [TabsOf]
/-- the module's own tuples of ints and texts -/
def NoKT (K : PySem.W.Frag) (st : Option (List Key → Bool)) : Prop := ∀ a (o : Obj) (its : Array Value) (n : Nat) (ks : List L2.Key), K.lookup a = some o → o.cls = .type "tuple" → o.data = .seq its n → Vals (ks.map L2.kV) its.toList → hasK st ks = true
theorem keysV_of : ∀ {ks : List L2.Key} {us : List Value}, Vals (ks.map L2.kV) us → keysV us = some ks
  | [], _, .nil => rfl
  | .inl i :: ks, _, .cons r rr => by
    obtain ⟨t, rfl⟩ := r
    show (keysV _).map _ = _
    rw [keysV_of rr]
    rfl
  | .inr x :: ks, _, .cons r rr => by
    obtain ⟨t, rfl⟩ := r
    show (keysV _).map _ = _
    rw [keysV_of rr]
    rfl
theorem ktB_ok {K : PySem.W.Frag} {st : Option (List Key → Bool)} (h : ktB st K = true) : NoKT K st := fun a o its n ks h1 h2 h3 h4 => by
  have := List.all_eq_true.mp h (a, o) (He.lookup_mem h1)
  simp only [h3, h2, keysV_of h4, decide_true, Bool.not_true, Bool.false_or] at this
  exact this
def keysL : List Val → Option (List Key)
  | [] => some []
  | x :: r => (keyOfV x).bind fun k => (keysL r).map (k :: ·)
def keysOf : Val → Option (List Key)
  | .tup xs => keysL xs
  | _ => none
def getK (kvs : List (List Key × Val)) (k : List Key) : Option Val := (kvs.find? fun kv => decide (kv.1 = k)).map (·.2)
def vInT (st : Option (List Key → Bool)) (k x : Val) : Res Val := match x with
  | .dcT kvs => (match keysOf k with
    | some ks => if hasK st ks = true then .bad else .ok (.bl (getK kvs ks).isSome)
    | none => .bad)
  | x => vIn k x
def vNotInT (st : Option (List Key → Bool)) (k x : Val) : Res Val := rNot (vInT st k x)
section
variable {K : PySem.W.Frag} {N : Hp}
theorem keys_rv : ∀ {xs : List Val} {vs : List V} {ks : List Key}, RVs K N vs xs → keysL xs = some ks → vs = ks.map L2.kV
  | [], _, ks, .nil, h => by cases h; rfl
  | x :: xs, _, ks, .cons r rr, h => by
    unfold keysL at h
    cases hk : keyOfV x with
    | none => rw [hk] at h; cases h
    | some k =>
      rw [hk] at h
      replace h : (keysL xs).map (k :: ·) = some ks := h
      cases hs : keysL xs with
      | none => rw [hs] at h; cases h
      | some ks' =>
        rw [hs] at h
        cases h
        rw [List.map_cons, ← keys_rv rr hs, keyOf_rv r hk]
theorem key_plain {st : Option (List Key → Bool)} {v : V} {x : Val} {ks : List Key} (kt : NoKT K st) (r : RV K N v x) (h : keysOf x = some ks) (hn : hasK st ks = false) : ∃ b, v = .ref b ∧ N b = some (.tup (ks.map L2.kV)) := by
  cases r with
  | @tup a vs xs hs rs =>
    have e := keys_rv rs h
    subst e
    refine ⟨a, rfl, ?_⟩
    rcases hs with hs | ⟨o, its, n, h1, h2, h3, _, h4⟩
    · exact hs
    · have := kt a o its n ks h1 h2 h3 h4; rw [hn] at this; cases this
  | _ => cases h
theorem RTs.get {k : List Key} : ∀ {vs : List (List L2.Key × V)} {xs : List (List Key × Val)}, RTs K N vs xs → match getK xs k with
    | some x => ∃ v, valV vs k = some v ∧ RV K N v x
    | none => valV vs k = none
  | _, _, .nil => rfl
  | _, _, .cons (k := k0) (v := v) (vs := vs) (x := x) (xs := xs) h r => by
    have ih := RTs.get (k := k) r
    by_cases e : k0 = k
    · have h1 : getK ((k0, x) :: xs) k = some x := by simp [getK, List.find?_cons, e]
      rw [h1]
      exact ⟨v, valV_pos e, h⟩
    · have h1 : getK ((k0, x) :: xs) k = getK xs k := by simp [getK, List.find?_cons, e]
      rw [h1, valV_neg e]
      exact ih
theorem RTs.some {k : List Key} {vs : List (List L2.Key × V)} {xs : List (List Key × Val)} (r : RTs K N vs xs) : (valV vs k).isSome = (getK xs k).isSome := by
  have h := r.get (k := k)
  cases hg : getK xs k with
  | none => rw [hg] at h; simp only at h; rw [h]; rfl
  | some x => rw [hg] at h; obtain ⟨v, h1, _⟩ := h; rw [h1]; rfl
theorem nx_inT (st : Option (List Key → Bool)) (x y : Val) : NX (vInT st x y) := by
  unfold vInT
  split
  · split
    · split
      · exact nx_bad
      · exact nx_ok
    · exact nx_bad
  · exact nx_inV _ _
theorem nx_notInT (st : Option (List Key → Bool)) (x y : Val) : NX (vNotInT st x y) := nx_not (nx_inT st x y)
theorem ops_notInT {st : Option (List Key → Bool)} (kt : NoKT K st) : OpS K (rNotInW K) (vNotInT st) := by
  intro N H e v w x y rx ry Q hh
  cases y with
  | dcT kvs =>
    obtain ⟨z, hz, k⟩ := hh
    cases ry with
    | @dcT a vs _ h r =>
      unfold vNotInT vInT at hz
      cases hk : keysOf x with
      | none => rw [hk] at hz; cases hz
      | some ks =>
        rw [hk] at hz
        replace hz : rNot (if hasK st ks = true then Res.bad else Res.ok (Val.bl (getK kvs ks).isSome)) = .ok z := hz
        split at hz
        · cases hz
        · rename_i hn
          cases hz
          obtain ⟨b, rfl, hb⟩ := key_plain kt rx hk (by simpa using hn)
          refine .inr ⟨a, valV vs ks, rfl, DGet.t (e _ _ h) (e _ _ hb), ?_⟩
          rw [r.some]
          exact k N H (Gr.refl e) _ (.bl _)
  | _ => exact ops_notInW N H e v w x _ rx ry Q hh
end
def putDt {κ : Type} [DecidableEq κ] (ts : List (κ × Tr)) (k : κ) (t : Tr) : List (κ × Tr) := if (ts.any fun kv => decide (kv.1 = k)) = true then ts.map (fun kv => if kv.1 = k then (kv.1, t) else kv) else ts ++ [(k, t)]
section
variable {K : PySem.W.Frag} {C : Cn} {B : Bs} {M H : Hp} {σ : L2.St} {env : Env} {fs : List Addr} {D : Ends}
theorem RTd.put {k : Key} {v : V} {x : Val} (h : RV K M v x) : ∀ {ts : List (Key × Tr)} {vs : List (L2.Key × V)} {f : List Addr}, RTd K M H vs ts f → ∃ f', RTd K M H (putK vs k v) (putDt ts k (.v x)) f' ∧ f'.Sublist f := by
  have any : ∀ {ts : List (Key × Tr)} {vs : List (L2.Key × V)} {f : List Addr}, RTd K M H vs ts f → (vs.any fun kv => decide (kv.1 = k)) = (ts.any fun kv => decide (kv.1 = k)) := by
    intro ts
    induction ts with
    | nil => intro vs f r; cases r; rfl
    | cons t ts ih => intro vs f r; cases r with | cons r r' => rw [List.any_cons, List.any_cons, ih r']
  have mp : ∀ {ts : List (Key × Tr)} {vs : List (L2.Key × V)} {f : List Addr}, RTd K M H vs ts f → ∃ f', RTd K M H (vs.map fun kv => if kv.1 = k then (kv.1, v) else kv) (ts.map fun kv => if kv.1 = k then (kv.1, .v x) else kv) f' ∧ f'.Sublist f := by
    intro ts
    induction ts with
    | nil => intro vs f r; cases r; exact ⟨[], .nil, .refl _⟩
    | cons t ts ih =>
      intro vs f r
      cases r with
      | @cons k0 v0 vs t ts f1 f2 r r' =>
        obtain ⟨f', h1, h2⟩ := ih r'
        by_cases e : k0 = k
        · refine ⟨[] ++ f', ?_, ?_⟩
          · rw [List.map_cons, List.map_cons]
            simp only [e, if_true]
            exact .cons (.v h) h1
          · exact h2.trans (List.sublist_append_right _ _)
        · refine ⟨f1 ++ f', ?_, List.Sublist.append (.refl _) h2⟩
          rw [List.map_cons, List.map_cons]
          simp only [e, if_false]
          exact .cons r h1
  have sn : ∀ {ts : List (Key × Tr)} {vs : List (L2.Key × V)} {f : List Addr}, RTd K M H vs ts f → RTd K M H (vs ++ [(k, v)]) (ts ++ [(k, .v x)]) f := by
    intro ts
    induction ts with
    | nil => intro vs f r; cases r; exact .cons (f := []) (fs := []) (.v h) .nil
    | cons t ts ih => intro vs f r; cases r with | cons r r' => exact .cons r (ih r')
  intro ts vs f r
  unfold putK putDt
  rw [any r]
  split
  · exact mp r
  · exact ⟨f, sn r, .refl _⟩
theorem RTt.put {k : List Key} {v : V} {x : Val} (h : RV K M v x) : ∀ {ts : List (List Key × Tr)} {vs : List (List L2.Key × V)} {f : List Addr}, RTt K M H vs ts f → ∃ f', RTt K M H (putK vs k v) (putDt ts k (.v x)) f' ∧ f'.Sublist f := by
  have any : ∀ {ts : List (List Key × Tr)} {vs : List (List L2.Key × V)} {f : List Addr}, RTt K M H vs ts f → (vs.any fun kv => decide (kv.1 = k)) = (ts.any fun kv => decide (kv.1 = k)) := by
    intro ts
    induction ts with
    | nil => intro vs f r; cases r; rfl
    | cons t ts ih => intro vs f r; cases r with | cons r r' => rw [List.any_cons, List.any_cons, ih r']
  have mp : ∀ {ts : List (List Key × Tr)} {vs : List (List L2.Key × V)} {f : List Addr}, RTt K M H vs ts f → ∃ f', RTt K M H (vs.map fun kv => if kv.1 = k then (kv.1, v) else kv) (ts.map fun kv => if kv.1 = k then (kv.1, .v x) else kv) f' ∧ f'.Sublist f := by
    intro ts
    induction ts with
    | nil => intro vs f r; cases r; exact ⟨[], .nil, .refl _⟩
    | cons t ts ih =>
      intro vs f r
      cases r with
      | @cons k0 v0 vs t ts f1 f2 r r' =>
        obtain ⟨f', h1, h2⟩ := ih r'
        by_cases e : k0 = k
        · refine ⟨[] ++ f', ?_, ?_⟩
          · rw [List.map_cons, List.map_cons]
            simp only [e, if_true]
            exact .cons (.v h) h1
          · exact h2.trans (List.sublist_append_right _ _)
        · refine ⟨f1 ++ f', ?_, List.Sublist.append (.refl _) h2⟩
          rw [List.map_cons, List.map_cons]
          simp only [e, if_false]
          exact .cons r h1
  have sn : ∀ {ts : List (List Key × Tr)} {vs : List (List L2.Key × V)} {f : List Addr}, RTt K M H vs ts f → RTt K M H (vs ++ [(k, v)]) (ts ++ [(k, .v x)]) f := by
    intro ts
    induction ts with
    | nil => intro vs f r; cases r; exact .cons (f := []) (fs := []) (.v h) .nil
    | cons t ts ih => intro vs f r; cases r with | cons r r' => exact .cons r (ih r')
  intro ts vs f r
  unfold putK putDt
  rw [any r]
  split
  · exact mp r
  · exact ⟨f, sn r, .refl _⟩
theorem RTt.length : ∀ {ts : List (List Key × Tr)} {vs : List (List L2.Key × V)} {f : List Addr}, RTt K M H vs ts f → vs.length = ts.length
  | [], _, _, .nil => rfl
  | _ :: _, _, _, .cons _ r => congrArg (· + 1) r.length
/-- one object of the place is written, nothing new -/
theorem SR.wr (S : SR K B M H σ env fs) {i : Nat} {b : Bool} {t t' : Tr} {p : List Stp} (hi : env[i]? = some (mkT b t)) (hg : getAt p t = some t') {v0 v' : V} (h1 : σ[i]? = some (some v0)) (h2 : addrAt H p v0 = some v') :
    ∃ f', RT K M H v' t' f' ∧ f'.Nodup ∧ (∀ a ∈ f', H a ≠ none) ∧ ∀ {a : Addr} {o : HO} {u : Tr} {f'' : List Addr}, a ∈ f' → f''.Sublist f' → RT K M (upd H a o) v' u f'' → ∃ fs', SR K B M (upd H a o) σ (env.set i (mkT b (setAt p u t))) fs' := by
  obtain ⟨v0', v'', f', k1, k2, k3, k4, k5, k6⟩ := S.foc2 hi hg
  rw [h1] at k1; cases k1
  rw [h2] at k2; cases k2
  refine ⟨f', k3, k4, fun a ha => S.sl.known a (k5 a ha), fun {a o u f''} ha hs r => ?_⟩
  have Mn : ∀ b ∈ f', M b = none := fun b hb => (S.fr b (k5 b hb)).1
  obtain ⟨oa, hoa, hwa⟩ := S.sl.kinds a (k5 a ha)
  exact k6 (N' := M) ⟨Same.refl _, S.g.nh.wr (Mn a ha) hoa (own_wr hwa), Out.of S.g.nh.tt (fun b hb => S.sl.kinds b (k5 b hb)) fun b hb o' q => by
    rw [upd_ne fun z => hb (by rw [z]; exact ha)]
    exact q, fun b q => .inl q, hs.nodup k4, fun b hb => ⟨Mn b (hs.subset hb), .inl (hs.subset hb)⟩⟩ r
end
end Vm
namespace Vm
open PySem L2 PyProof.Rows
variable [TabsOf]
section
variable {P : Program} {w : World} {K : PySem.W.Frag} {mg : Str → Option Value} {base : Heap} {XR : XRel}
variable {x c qual : Str} {params : Arguments} {body : List Stmt} {scope : Scope} {f : Addr} {fd : FuncData} {N ps : List Str} {j k n : Nat} {m : ST}
theorem FnOk.none {fd : FuncData} {sp' : Sp} (h : ∀ vs H Q E, ¬ sp' vs H Q E) : FnOk P w K mg base (L2.CX P w) j f fd ps sp' :=
  ⟨fun vs H Q E z => absurd z (h vs H Q E), fun A outer s H args us vs Q E hr he hb hv z => absurd z (h vs H Q E)⟩
end
section
variable {X : Cx} {C : Cn} {a b c : Expr} {ta tb tc tk tp : TE} {ma mb mc : EX} {na nb : EM} {pos p p2 pos' apos : Pos} {e : Expr} {es : List Expr} {rest : List Stmt} {u t2 : TS} {n n1 n2 : ST} {t : TA} {m : AM} {ml : EL} {x mm cn : Str} {j k : Nat}
variable {tt tu : TT} {mt mu : BM} {bt : EB}
theorem c_niT (F : Fr X C) {st : Option (List Key → Bool)} (kt : NoKT X.K st) : CmpS X .NotIn (rNotInW X.K) (vNotInT st) := ⟨op_notInW (Nat.lt_of_le_of_lt (Nat.add_le_add_left (by decide : 1 ≤ 65) _) F.hu), ops_notInT kt, nx_notInT st⟩
end
end Vm
namespace Vm
open PySem L2 PyProof.Rows
variable [TabsOf]
def dataOk (x : Val) (ys : List Val) : Bool := x.isData && decide (x.depth ≤ 64) && (Val.isDatas ys && decide (Val.depths ys + 1 ≤ 64))
/-- x in ys, data -/
def vInDt : Val → Val → Res Val
  | x, .lst ys => if dataOk x ys = true then .ok (.bl (inFlat x ys)) else .bad
  | _, _ => .bad
def vNotInDt (x y : Val) : Res Val := rNot (vInDt x y)
section
variable {K : PySem.W.Frag} {C : Cn} {ta tb : TE} {ma mb : EX}
theorem dataOk_iff {x : Val} {ys : List Val} (h : dataOk x ys = true) : x.isData = true ∧ x.depth ≤ 64 ∧ (Val.lst ys).isData = true ∧ (Val.lst ys).depth ≤ 64 := by
  unfold dataOk at h
  simp only [Bool.and_eq_true, decide_eq_true_eq] at h
  exact ⟨h.1.1, h.1.2, h.2.1, h.2.2⟩
theorem inD_any {x : Val} : ∀ {ys : List Val}, x.isData = true → Val.isDatas ys = true → ((toDs ys).any fun z => PyData.eqv z (toD x)) = inFlat x ys
  | [], _, _ => rfl
  | y :: ys, hx, h => by
    simp only [Val.isDatas, Bool.and_eq_true] at h
    show (PyData.eqv (toD y) (toD x) || (toDs ys).any fun z => PyData.eqv z (toD x)) = (eqv y x || inFlat x ys)
    rw [eqv_toD y x h.1 hx, inD_any hx h.2]
theorem nx_inDt (x y : Val) : NX (vInDt x y) := by unfold vInDt; split <;> first | exact nx_ite nx_ok nx_bad | exact nx_bad
theorem ops_notInDt : OpS K (rNotInD K) vNotInDt := by
  intro N H e v w x y rx ry Q ⟨z, hz, k⟩
  cases y with
  | lst ys =>
    replace hz : rNot (if dataOk x ys = true then Res.ok (Val.bl (inFlat x ys)) else .bad) = .ok z := hz
    by_cases hd : dataOk x ys = true
    · rw [if_pos hd] at hz
      cases hz
      obtain ⟨h1, h2, h3, h4⟩ := dataOk_iff hd
      refine ⟨toD x, toDs ys, (RV.dp x (rx.mono e) h1), (RV.dp (.lst ys) (ry.mono e) h3), shaped_toD h1 h2, shaped_toD (x := .lst ys) h3 h4, ?_⟩
      rw [inD_any h1 h3]
      exact k N H (Gr.refl e) _ (.bl _)
    · rw [if_neg hd] at hz; cases hz
  | _ => cases hz
end
section
variable {X : Cx} {C : Cn} {a b c : Expr} {ta tb tp : TE} {ma mb : EX} {pos p p2 pos' : Pos} {es : List Expr} {t : TA} {ml : EL} {x : Str} {j k : Nat}
theorem c_niDt (F : Fr X C) : CmpS X .NotIn (rNotInD X.K) vNotInDt := ⟨op_notInD F.hu, ops_notInDt, fun x y => nx_not (nx_inDt x y)⟩
end
end Vm
namespace Vm
open PySem L2 PyProof.Rows
variable [TabsOf]
section
variable {K : PySem.W.Frag} {C : Cn} {B : Bs} {M H : Hp} {σ : L2.St} {env : Env} {fs : List Addr}
/-- the list that a comprehension fills stands beside all the slots -/
abbrev BD (B : Bs) (D : Addr) (acc : List V) (M1 : Hp) : Bs := { B with h := upd B.h D (.lst acc), l := M1 }
theorem SO.swap {me : V} : ∀ {σ σ' : L2.St} {env : Env} {fs : List Addr}, SO K me M H σ env fs → σ'.length = σ.length → (∀ i : Nat, env[i]? = some Slot.un ∨ σ'[i]? = σ[i]?) → SO K me M H σ' env fs
  | _, σ', _, _, .nil, hl, _ => by
    cases σ' with
    | nil => exact .nil
    | cons _ _ => cases hl
  | _, σ', _, _, .cons (s := s) (e := e) r t, hl, h => by
    cases σ' with
    | nil => cases hl
    | cons s' σ' =>
      have t' := SO.swap t (by simpa using hl) fun i => by simpa using h (i + 1)
      rcases h 0 with h0 | h0
      · simp at h0
        subst h0
        cases r
        exact .cons (.un s') t'
      · simp at h0
        subst h0
        exact .cons r t'
variable {D : Addr} {acc : List V} {M1 H1 : Hp}
theorem SRD.at (S : SR K (BD B D acc M1) M H σ env fs) : H D = some (.lst acc) := S.g.hh.to D _ upd_same rfl
theorem SRD.low (S : SR K (BD B D acc M1) M H σ env fs) (hm : B.m D = none) : M D = none := by
  cases hq : M D with
  | none => rfl
  | some o =>
    rcases S.g.nw D (by rw [hq]; simp) with h | h
    · exact absurd hm h
    · have h : upd B.h D (.lst acc) D = none := h
      rw [upd_same] at h; cases h
theorem SRD.ne (S : SR K (BD B D acc M1) M H σ env fs) {a : Addr} (ha : a ∈ fs) : a ≠ D ∧ B.h a = none := by
  have h : upd B.h D (.lst acc) a = none := (S.fr a ha).2
  have hne : a ≠ D := fun z => by rw [z, upd_same] at h; cases h
  rw [upd_ne hne] at h
  exact ⟨hne, h⟩
theorem SRD.start (S : SR K B M1 H σ env fs) (hD : H D = none) : SR K (BD B D [] M1) M1 (upd H D (.lst [])) σ env fs := by
  have hne : ∀ a o, H a = some o → a ≠ D := fun a o q => ne_of_none q hD
  have hM : M1 D = none := by
    cases hq : M1 D with
    | none => rfl
    | some o => have := S.g.nh D o hq; rw [hD] at this; cases this
  refine ⟨⟨S.g.hh.upd2, S.g.nn, S.g.nh.newH hD, fun a q => ?_⟩, Same.refl _, fun a ha => ⟨(S.fr a ha).1, ?_⟩, S.nd, S.sl.mono (Same.refl _) fun a ha => ?_⟩
  · rcases S.g.nw a q with h | h
    · exact .inl h
    · refine .inr ?_
      show upd B.h D (.lst []) a = none
      rw [upd_ne fun z => q (by rw [z]; exact hM)]; exact h
  · show upd B.h D (.lst []) a = none
    rw [upd_ne fun z => S.sl.known a ha (by rw [z]; exact hD)]
    exact (S.fr a ha).2
  · exact upd_ne fun z => S.sl.known a ha (by rw [z]; exact hD)
theorem SRD.push (S : SR K (BD B D acc M1) M H σ env fs) (hm : B.m D = none) {acc' : List V} : SR K (BD B D acc' M1) M (upd H D (.lst acc')) σ env fs := by
  have hM := SRD.low S hm
  refine ⟨⟨S.g.hh.upd3, S.g.nn, S.g.nh.wr hM (SRD.at S), fun a q => ?_⟩, S.lo, fun a ha => ⟨(S.fr a ha).1, ?_⟩, S.nd, S.sl.mono (Same.refl _) fun a ha => upd_ne (SRD.ne S ha).1⟩
  · rcases S.g.nw a q with h | h
    · exact .inl h
    · refine .inr ?_
      have hne : a ≠ D := fun z => q (by rw [z]; exact hM)
      have h : upd B.h D (.lst acc) a = none := h
      rw [upd_ne hne] at h
      show upd B.h D (.lst acc') a = none
      rw [upd_ne hne]; exact h
  · show upd B.h D (.lst acc') a = none
    rw [upd_ne (SRD.ne S ha).1]; exact (SRD.ne S ha).2
theorem SRD.done (S : SR K (BD B D acc M1) M H σ env fs) (hm : B.m D = none) (hh : B.h D = none) (hl : Sub B.l M1) : SR K B (upd M D (.lst acc)) H σ env fs := by
  have hM := SRD.low S hm
  have sub : Sub M (upd M D (.lst acc)) := fun a o q => by rw [upd_ne (ne_of_none q hM)]; exact q
  refine ⟨⟨S.g.hh.unupd hh, S.g.nn.trans sub, S.g.nh.add (SRD.at S), fun a q => ?_⟩, hl.trans (S.lo.trans sub), fun a ha => ⟨?_, (SRD.ne S ha).2⟩, S.nd, S.sl.mono sub fun _ _ => rfl⟩
  · by_cases ha : a = D
    · exact .inr (ha ▸ hh)
    · rw [upd_ne ha] at q
      rcases S.g.nw a q with h | h
      · exact .inl h
      · have h : upd B.h D (.lst acc) a = none := h
        rw [upd_ne ha] at h; exact .inr h
  · rw [upd_ne (SRD.ne S ha).1]; exact (S.fr a ha).1
end
end Vm
noncomputable section
namespace Vm
open PySem PySem.Spec PyProof.Rows RZ L2
variable [TabsOf]
namespace ZM
/-- a cursor that stands at item n of the tuple (t) or list at b -/
def Cur (t : Bool) (h : Heap) (c b : Addr) (n : Nat) : Prop := bif t then h.IsTupleIter c b n else h.IsListIter c b n
/-- the items of the tuple (t) or list at b -/
def Itm (t : Bool) (h : Heap) (b : Addr) (us : Array Value) : Prop := bif t then h.IsTuple b us else h.IsList b us
theorem Cur.lt {t : Bool} {h : Heap} {c b : Addr} {n : Nat} (x : Cur t h c b n) : c < h.objs.size := by
  cases t
  · obtain ⟨_, q, _⟩ := x; exact Heap.lt_size q
  · obtain ⟨_, q, _⟩ := x; exact Heap.lt_size q
theorem Itm.lt {t : Bool} {h : Heap} {b : Addr} {us : Array Value} (x : Itm t h b us) : b < h.objs.size := by
  cases t
  · obtain ⟨_, q, _⟩ := x; exact Heap.lt_size q
  · obtain ⟨_, q, _⟩ := x; exact Heap.lt_size q
theorem Cur.cell {t : Bool} {h : Heap} {c b : Addr} {n : Nat} (x : Cur t h c b n) : ∃ o, h.get? c = some o ∧ ∀ v, o.data ≠ .cell v := by
  cases t
  · obtain ⟨o, q, _, d⟩ := x; exact ⟨o, q, fun v w => by rw [d] at w; cases w⟩
  · obtain ⟨o, q, _, d⟩ := x; exact ⟨o, q, fun v w => by rw [d] at w; cases w⟩
def nm (t : Bool) : Obj := { cls := .type (bif t then "tuple_iterator" else "list_iterator"), data := .fields #[.none, .int 0 0] }
abbrev CurO (t : Bool) (b : Addr) : Obj := { cls := .type (bif t then "tuple_iterator" else "list_iterator"), data := .fields #[.ref b, .int 0 0] }
abbrev hp1 (t1 : Bool) (h : Heap) (b1 : Addr) : Heap := h.push (CurO t1 b1)
abbrev hp2 (t1 t2 : Bool) (h : Heap) (b1 b2 : Addr) : Heap := (hp1 t1 h b1).push (CurO t2 b2)
abbrev hp3 (t1 t2 : Bool) (h : Heap) (b1 b2 : Addr) : Heap := (hp2 t1 t2 h b1 b2).push { cls := .type "tuple", data := .seq #[.ref h.objs.size, .ref (hp1 t1 h b1).objs.size] }
theorem Itm.push {t : Bool} {h : Heap} {b : Addr} {us : Array Value} (x : Itm t h b us) (o : Obj) : Itm t (h.push o) b us := by
  cases t
  · exact Heap.IsList.push x o
  · exact Heap.IsTuple.push x o
def SqM (t : Bool) (K : PySem.W.Frag) (H : Hp) (a : Addr) (xs : List V) : Prop := bif t then SqT K H a xs else SqL K H a xs
theorem SqM.ok {t : Bool} {X : Cx} {pins : List (Addr × Obj)} {σ : L2.St} {H : Hp} {s : Shared} {a : Addr} {xs : List V} (I : Inv X pins σ H s) (h : SqM t X.K H a xs) : ∃ its : List Value, Vals xs its ∧ Itm t s.heap a its.toArray := by
  cases t
  · obtain ⟨its, r, p, _⟩ := I.list h
    exact ⟨its, r, p.isList⟩
  · obtain ⟨its, r, p, _⟩ := I.tuple h
    exact ⟨its, r, p⟩
theorem SqM.inj {t : Bool} {X : Cx} {pins : List (Addr × Obj)} {σ : L2.St} {H : Hp} {s : Shared} {a : Addr} {xs ys : List V} (I : Inv X pins σ H s) (h : SqM t X.K H a xs) (h' : SqM t X.K H a ys) : xs = ys := by
  cases t
  · exact I.list_inj h h'
  · exact I.tuple_inj h h'
end ZM
open ZM
end Vm
end
noncomputable section
namespace Vm
open PySem L2 PyProof.Rows
variable [TabsOf]
section
variable {K : PySem.W.Frag} {C : Cn}
theorem SRD.own {B : Bs} {M H M1 : Hp} {σ : L2.St} {env : Env} {fs : List Addr} {D : Addr} {acc : List V} {ys : List Val} (S : SR K (BD B D acc M1) M H σ env fs) (hm : B.m D = none) (hh : B.h D = none) (hl : Sub B.l M1) {i : Nat} (hi : i < env.length) (r : RVs K M acc ys) :
    ∃ fs', SR K B M H (σ.set i (some (.ref D))) (env.set i (.oL ys)) fs' := by
  obtain ⟨s0, f1, f, f2, h1, h2, h3, h4⟩ := S.sl.at (List.getElem?_eq_getElem hi)
  have hM := SRD.low S hm
  refine ⟨f1 ++ ([D] ++ f2), ⟨⟨S.g.hh.unupd hh, S.g.nn, S.g.nh, fun a q => ?_⟩, hl.trans S.lo, fun a ha => ?_, ?_, h4 (Same.refl _) (fun a ha => rfl) (.oL (SRD.at S) r)⟩⟩
  · rcases S.g.nw a q with h | h
    · exact .inl h
    · have hne : a ≠ D := fun z => q (by rw [z]; exact hM)
      have h : upd B.h D (.lst acc) a = none := h
      rw [upd_ne hne] at h; exact .inr h
  · simp only [List.mem_append, List.mem_singleton] at ha
    rcases ha with ha | ha | ha
    · exact ⟨(S.fr a (by rw [h2]; simp [ha])).1, (SRD.ne S (by rw [h2]; simp [ha])).2⟩
    · subst ha; exact ⟨hM, hh⟩
    · exact ⟨(S.fr a (by rw [h2]; simp [ha])).1, (SRD.ne S (by rw [h2]; simp [ha])).2⟩
  · refine nodup_mid (by rw [← h2]; exact S.nd) (List.nodup_cons.mpr ⟨by simp, .nil⟩) fun a ha hb => ?_
    rw [List.mem_singleton] at ha
    subst ha
    refine (SRD.ne S (a := a) ?_).1 rfl
    rw [h2]
    simp only [List.mem_append] at hb ⊢
    rcases hb with h | h <;> simp [h]
end
end Vm
end
noncomputable section
namespace Vm
open PySem L2 PyProof.Rows
variable [TabsOf]
abbrev BDo (B : Bs) (D : Addr) (o : L2.HO) (M1 : Hp) : Bs := { B with h := upd B.h D o, l := M1 }
section
variable {K : PySem.W.Frag} {C : Cn} {B : Bs} {M H M1 H1 : Hp} {σ : L2.St} {env : Env} {fs : List Addr} {D : Addr} {acc : L2.HO}
theorem SRO.at (S : SR K (BDo B D acc M1) M H σ env fs) (hw : Wr acc = true := by rfl) : H D = some acc := S.g.hh.to D _ upd_same (wr_ntb hw)
theorem SRO.low (S : SR K (BDo B D acc M1) M H σ env fs) (hm : B.m D = none) : M D = none := by
  cases hq : M D with
  | none => rfl
  | some o =>
    rcases S.g.nw D (by rw [hq]; simp) with h | h
    · exact absurd hm h
    · have h : upd B.h D acc D = none := h
      rw [upd_same] at h; cases h
theorem SRO.ne (S : SR K (BDo B D acc M1) M H σ env fs) {a : Addr} (ha : a ∈ fs) : a ≠ D ∧ B.h a = none := by
  have h : upd B.h D acc a = none := (S.fr a ha).2
  have hne : a ≠ D := fun z => by rw [z, upd_same] at h; cases h
  rw [upd_ne hne] at h
  exact ⟨hne, h⟩
theorem SRO.start {o0 : L2.HO} (S : SR K B M1 H σ env fs) (hD : H D = none) : SR K (BDo B D o0 M1) M1 (upd H D o0) σ env fs := by
  have hne : ∀ a o, H a = some o → a ≠ D := fun a o q => ne_of_none q hD
  have hM : M1 D = none := by
    cases hq : M1 D with
    | none => rfl
    | some o => have := S.g.nh D o hq; rw [hD] at this; cases this
  refine ⟨⟨S.g.hh.upd2, S.g.nn, S.g.nh.newH hD, fun a q => ?_⟩, Same.refl _, fun a ha => ⟨(S.fr a ha).1, ?_⟩, S.nd, S.sl.mono (Same.refl _) fun a ha => ?_⟩
  · rcases S.g.nw a q with h | h
    · exact .inl h
    · refine .inr ?_
      show upd B.h D o0 a = none
      rw [upd_ne fun z => q (by rw [z]; exact hM)]; exact h
  · show upd B.h D o0 a = none
    rw [upd_ne fun z => S.sl.known a ha (by rw [z]; exact hD)]
    exact (S.fr a ha).2
  · exact upd_ne fun z => S.sl.known a ha (by rw [z]; exact hD)
theorem SRO.push (S : SR K (BDo B D acc M1) M H σ env fs) (hm : B.m D = none) {acc' : L2.HO} (hw : Wr acc = true := by rfl) : SR K (BDo B D acc' M1) M (upd H D acc') σ env fs := by
  have hM := SRO.low S hm
  refine ⟨⟨S.g.hh.upd3, S.g.nn, S.g.nh.wr hM (SRO.at S hw) hw, fun a q => ?_⟩, S.lo, fun a ha => ⟨(S.fr a ha).1, ?_⟩, S.nd, S.sl.mono (Same.refl _) fun a ha => upd_ne (SRO.ne S ha).1⟩
  · rcases S.g.nw a q with h | h
    · exact .inl h
    · refine .inr ?_
      have hne : a ≠ D := fun z => q (by rw [z]; exact hM)
      have h : upd B.h D acc a = none := h
      rw [upd_ne hne] at h
      show upd B.h D acc' a = none
      rw [upd_ne hne]; exact h
  · show upd B.h D acc' a = none
    rw [upd_ne (SRO.ne S ha).1]; exact (SRO.ne S ha).2
theorem SRO.done (S : SR K (BDo B D acc M1) M H σ env fs) (hm : B.m D = none) (hh : B.h D = none) (hl : Sub B.l M1) (hw : Wr acc = true := by rfl) : SR K B (upd M D acc) H σ env fs := by
  have hM := SRO.low S hm
  have sub : Sub M (upd M D acc) := fun a o q => by rw [upd_ne (ne_of_none q hM)]; exact q
  refine ⟨⟨S.g.hh.unupd hh, S.g.nn.trans sub, S.g.nh.add (SRO.at S hw) (wr_ntb hw), fun a q => ?_⟩, hl.trans (S.lo.trans sub), fun a ha => ⟨?_, (SRO.ne S ha).2⟩, S.nd, S.sl.mono sub fun _ _ => rfl⟩
  · by_cases ha : a = D
    · exact .inr (ha ▸ hh)
    · rw [upd_ne ha] at q
      rcases S.g.nw a q with h | h
      · exact .inl h
      · have h : upd B.h D acc a = none := h
        rw [upd_ne ha] at h; exact .inr h
  · rw [upd_ne (SRO.ne S ha).1]; exact (S.fr a ha).1
end
section
variable {K : PySem.W.Frag} {C : Cn}
theorem SRO.own {B : Bs} {M H M1 : Hp} {σ : L2.St} {env : Env} {fs : List Addr} {D : Addr} {acc : List (L2.Key × V)} {ys : List (Key × Val)} (S : SR K (BDo B D (.dK acc) M1) M H σ env fs) (hm : B.m D = none) (hh : B.h D = none) (hl : Sub B.l M1) {i : Nat} (hi : i < env.length) (r : RKs K M acc ys) :
    ∃ fs', SR K B M H (σ.set i (some (.ref D))) (env.set i (.oD ys)) fs' := by
  obtain ⟨s0, f1, f, f2, h1, h2, h3, h4⟩ := S.sl.at (List.getElem?_eq_getElem hi)
  have hM := SRO.low S hm
  refine ⟨f1 ++ ([D] ++ f2), ⟨⟨S.g.hh.unupd hh, S.g.nn, S.g.nh, fun a q => ?_⟩, hl.trans S.lo, fun a ha => ?_, ?_, h4 (Same.refl _) (fun a ha => rfl) (.oD (SRO.at S) r)⟩⟩
  · rcases S.g.nw a q with h | h
    · exact .inl h
    · have hne : a ≠ D := fun z => q (by rw [z]; exact hM)
      have h : upd B.h D (.dK acc) a = none := h
      rw [upd_ne hne] at h; exact .inr h
  · simp only [List.mem_append, List.mem_singleton] at ha
    rcases ha with ha | ha | ha
    · exact ⟨(S.fr a (by rw [h2]; simp [ha])).1, (SRO.ne S (by rw [h2]; simp [ha])).2⟩
    · subst ha; exact ⟨hM, hh⟩
    · exact ⟨(S.fr a (by rw [h2]; simp [ha])).1, (SRO.ne S (by rw [h2]; simp [ha])).2⟩
  · refine nodup_mid (by rw [← h2]; exact S.nd) (List.nodup_cons.mpr ⟨by simp, .nil⟩) fun a ha hb => ?_
    rw [List.mem_singleton] at ha
    subst ha
    refine (SRO.ne S (a := a) ?_).1 rfl
    rw [h2]
    simp only [List.mem_append] at hb ⊢
    rcases hb with h | h <;> simp [h]
end
end Vm
end
noncomputable section
namespace Vm
open PySem L2 PyProof.Rows
variable [TabsOf]
section
variable {K : PySem.W.Frag} {C : Cn}
theorem SV.tree {N : Hp} {σ : L2.St} {env : Env} {t : Tr} (h : SV K N σ env) : ∀ {i : Nat}, env[i]? = some (.oT t) → ∃ v, σ[i]? = some (some v) ∧ RV K N v t.val := by
  induction h with
  | nil => intro i h; simp at h
  | oT r _ ih =>
    intro i h
    cases i with
    | zero =>
      simp only [List.getElem?_cons_zero, Option.some.injEq] at h
      cases h
      exact ⟨_, rfl, r⟩
    | succ i => rw [List.getElem?_cons_succ] at h ⊢; exact ih h
  | un _ ih => intro i h; cases i with
    | zero => simp at h
    | succ i => rw [List.getElem?_cons_succ] at h ⊢; exact ih h
  | sh _ _ ih => intro i h; cases i with
    | zero => simp at h
    | succ i => rw [List.getElem?_cons_succ] at h ⊢; exact ih h
  | oL _ _ ih => intro i h; cases i with
    | zero => simp at h
    | succ i => rw [List.getElem?_cons_succ] at h ⊢; exact ih h
  | oD _ _ ih => intro i h; cases i with
    | zero => simp at h
    | succ i => rw [List.getElem?_cons_succ] at h ⊢; exact ih h
  | me _ _ ih => intro i h; cases i with
    | zero => simp at h
    | succ i => rw [List.getElem?_cons_succ] at h ⊢; exact ih h
end
end Vm
end
namespace Vm
open PySem L2 PyProof.Rows PySem.W LamX
variable [TabsOf]
/-- the slots of a lambda's body: its parameter, then the captured names -/
structure LamP (sc scope : Scope) (N : List Str) (p : Str) (caps : List (Str × Nat)) : Prop where
  kind : scope.kind = .function
  co : scope.isCoroutine = false
  gen : scope.isGenerator = false
  par : scope.names.lookup p = some .local
  loc : ∀ y ∈ scope.names, y.2 = .local → y.1 = p
  cel : ∀ y ∈ scope.names, y.2 ≠ .cell
  free : ∀ y ∈ scope.names, y.2 = .free → sc.names.lookup y.1 = some .cell ∨ sc.names.lookup y.1 = some .free
  caps : ∀ c ∈ caps, scope.names.lookup c.1 = some .free ∧ N[c.2]? = some c.1
theorem LamP.has {X : Cx} {scope : Scope} {N : List Str} {p : Str} {caps : List (Str × Nat)} (L : LamP X.env.scope scope N p caps) (ok : X.Ok) : ∀ y ∈ scope.names, y.2 = .free → ∃ c, X.env.cells.lookup y.1 = some c := fun y hy e => ok.has y.1 (L.free y hy e)
end Vm
namespace OSet
open PySem PySem.Spec PyProof.Rows L2 PpSet PySem.W
def kf : Value → Key
  | .int i _ => .inl i
  | .str x _ => .inr x
  | _ => .inl 0
theorem kf_of {k : Key} {v : Value} (h : keyIs k v = true) : kf v = k := by
  rcases keyIs_shape h with ⟨i, t, rfl, rfl⟩ | ⟨x, t, rfl, rfl⟩ <;> rfl
abbrev El := Int × Value
def kfE (e : El) : Key := kf e.2
abbrev keysOf (es : Array El) : List Key := es.toList.map kfE
structure Fit (w : World) (es : Array El) (t : SetTable) (S : Key → Bool) : Prop where
  mem : ∀ e ∈ es.toList, ∃ k, keyIs k e.2 = true ∧ e.1 = keyH w k
  nd : (keysOf es).Nodup
  has : ∀ k, S k = true ↔ k ∈ keysOf es
  room : es.size < scanBound
  fits : t.fits es.size = true
  ris : Ris t.place.toList
  led : w.params.followText "set-order" = true ∨ t.led = true
/-- the set at a -/
def At (w : World) (h : Heap) (a : Addr) (S : Key → Bool) (n : Nat) : Prop := ∃ o es ep t, h.get? a = some o ∧ o.ExactSet ∧ o.data = .set es ep t ∧ es.size = n ∧ Fit w es t S
section
variable {P : Program} {w : World} {A : Around} {E : Value → Shared → Prop} {s : Shared} {h h' : Heap} {a : Addr} {S : Key → Bool} {n : Nat} {es : Array El} {t : SetTable} {k : Key} {v : Value}
theorem At.to (R : At w h a S n) (g : ∀ o, h.get? a = some o → h'.get? a = some o) : At w h' a S n :=
  let ⟨o, es, ep, t, ho, r⟩ := R
  ⟨o, es, ep, t, g o ho, r⟩
theorem Fit.key (F : Fit w es t S) : k ∈ keysOf es ↔ ∃ e ∈ es.toList, keyIs k e.2 = true := by
  rw [List.mem_map]
  constructor
  · rintro ⟨e, he, rfl⟩
    obtain ⟨k, h1, _⟩ := F.mem e he
    exact ⟨e, he, by show keyIs (kf e.2) e.2 = true; rw [kf_of h1]; exact h1⟩
  · rintro ⟨e, he, q⟩
    exact ⟨e, he, kf_of q⟩
/-- an element more, laid out anew -/
theorem Fit.snoc {es1 : Array El} {t1 : SetTable} (F : Fit w es t S) (hv : keyIs k v = true) (hk : k ∉ keysOf es) (pm : es1.toList.Perm ((keyH w k, v) :: es.toList)) (hr : es.size + 1 < scanBound) (h1 : t1.fits es1.size = true) (h2 : Ris t1.place.toList) (h3 : t1.led = t.led) :
    es1.size = es.size + 1 ∧ Fit w es1 t1 fun j => S j || decide (j = k) := by
  have hz : es1.size = es.size + 1 := by rw [← Array.length_toList, pm.length_eq, List.length_cons, Array.length_toList]
  have pk : (keysOf es1).Perm (k :: keysOf es) := by
    have := pm.map kfE
    rw [List.map_cons, show kfE (keyH w k, v) = k from kf_of hv] at this
    exact this
  refine ⟨hz, fun e he => ?_, pk.nodup_iff.mpr (List.nodup_cons.mpr ⟨hk, F.nd⟩), fun j => ?_, by rw [hz]; exact hr, h1, h2, F.led.imp id fun z => by rw [h3]; exact z⟩
  · rcases List.mem_cons.mp (pm.mem_iff.mp he) with z | z
    · exact ⟨k, by rw [z]; exact hv, by rw [z]⟩
    · exact F.mem e z
  · rw [Bool.or_eq_true, decide_eq_true_eq, F.has j, pk.mem_iff, List.mem_cons]
    exact Or.comm
end
/-- a set with these members there can be -/
def Real (w : World) (S : Key → Bool) (n : Nat) : Prop := ∃ es t, es.size = n ∧ Fit w es t S
def kVal : Key → Value
  | .inl i => .int i 0
  | .inr x => .str x 0
theorem kVal_is : ∀ k : Key, keyIs k (kVal k) = true
  | .inl i => keyIs_int i 0
  | .inr x => keyIs_str x 0
def more (S : Key → Bool) (k : Key) : Key → Bool := fun j => S j || decide (j = k)
theorem Real.add {w : World} {S : Key → Bool} {n : Nat} (R : Real w S n) (k : Key) (room : n + 1 < scanBound) : Real w (more S k) (if S k = true then n else n + 1) := by
  obtain ⟨es, t, rfl, F⟩ := R
  by_cases hk : S k = true
  · rw [if_pos hk]
    refine ⟨es, t, rfl, F.mem, F.nd, fun i => ?_, F.room, F.fits, F.ris, F.led⟩
    show (S i || decide (i = k)) = true ↔ _
    rw [Bool.or_eq_true, decide_eq_true_eq, ← F.has i]
    exact ⟨fun z => z.elim id (fun e => e ▸ hk), .inl⟩
  · rw [if_neg hk]
    have pm := layNew_perm t es (keyH w k) (kVal k)
    rw [Array.toList_push] at pm
    obtain ⟨z, F'⟩ := F.snoc (kVal_is k) (fun z => hk ((F.has k).2 z)) (pm.trans (List.perm_append_singleton _ _)) room (layNew_fits t es (keyH w k) (kVal k)) (layNew_ris t es (keyH w k) (kVal k) F.ris) (layNew_led t es (keyH w k) (kVal k))
    exact ⟨_, _, z, F'⟩
end OSet
noncomputable section
namespace Vm
open PySem L2 PyProof.Rows PySem.W
instance decMemK (k : Key) (acc : List Key) : Decidable (k ∈ acc) := decidable_of_iff (acc.any (fun j => decide (j = k)) = true) (by
  rw [List.any_eq_true]
  exact ⟨fun ⟨j, h, e⟩ => of_decide_eq_true e ▸ h, fun h => ⟨k, h, decide_eq_true rfl⟩⟩)
section
variable [TabsOf] {X : Cx} {C : Cn} {p pos pos2 : Pos} {tt : TT} {mt : EB} {elt tg iter : Expr} {ifs : List Expr} {scope : Scope} {own : List (Str × Nat)} {wi : TI} {it : EI} {g : TG} {put : Put} {is : List Nat} {te : TE} {me : EX}
theorem boot_len : bootBuiltins "len" = some (.builtin "len") := by decide +kernel
end
end Vm
end
noncomputable section
namespace Vm
open PySem L2 PyProof.Rows PySem.W
def KDk (K : PySem.W.Frag) (w : World) (a : Addr) (tab : List (Str × Val)) : Prop := ∃ es n, KDict K w a es n ∧ entB K tab es.toList = true
theorem kdk_of {K : PySem.W.Frag} {w : World} {a : Addr} {tab : List (Str × Val)} (h : ∃ es n, KDict K w a es n) (c : dicB K a tab = true) : KDk K w a tab := by
  obtain ⟨es, n, kd⟩ := h
  unfold dicB at c
  rw [kd.at_] at c
  exact ⟨es, n, kd, c⟩
end Vm
end
namespace Vm
open PySem L2 PyProof.Rows
variable [TabsOf]
def InsO : HO → Prop
  | .ins _ _ _ => True
  | .own _ => True
  | _ => False
def isV : Tr → Bool
  | .v _ => true
  | _ => false
def bareO : Tr → Bool
  | .o _ fs => fs.all fun p => isV p.2
  | _ => false
section
variable {K : PySem.W.Frag} {N : Hp} {fs : List Addr}
theorem RTo.bare {M H : Hp} : ∀ {ts : List (Str × Tr)} {vs : List (Str × V)} {f : List Addr}, RTo K M H vs ts f → (ts.all fun p => isV p.2) = true → f = []
  | [], _, _, .nil, _ => rfl
  | (_, t) :: ts, _, _, .cons r r', h => by
    rw [List.all_cons, Bool.and_eq_true] at h
    cases r with
    | v _ => exact RTo.bare r' h.2
    | _ => exact absurd h.1 (by simp [isV])
theorem RT.bare {M H : Hp} {v : V} {t : Tr} {f : List Addr} (r : RT K M H v t f) (h : bareO t = true) : ∀ a ∈ f, ∃ o, H a = some o ∧ InsO o := by
  cases r with
  | @o a dx c vs ts f ha hd ro =>
    have := ro.bare h
    subst this
    intro b hb
    simp only [List.mem_cons, List.not_mem_nil, or_false] at hb
    rcases hb with rfl | rfl
    · exact ⟨_, ha, True.intro⟩
    · exact ⟨_, hd, True.intro⟩
  | _ => exact absurd h (by simp [bareO])
end
end Vm
namespace Vm
open PySem L2 PyProof.Rows
variable [TabsOf]
def keyF (k : EX) (env : Env) (f : Key → Flow) : Flow := (k (hide env)).flow env fun x => match keyOfV x with
  | some key => f key
  | none => .bad
end Vm
noncomputable section
namespace Vm
open PySem PySem.Spec PyProof.Rows RZ L2
namespace ZM
end ZM
open ZM
end Vm
end
namespace Vm
open PySem PySem.Spec L2 PyProof.Rows
variable [TabsOf]
theorem d_dictSetT {X : Cx} {pins : List (Addr × Obj)} {σ : L2.St} {H : Hp} {s : Shared} {E : Value → Shared → Prop} {D b : Addr} {kvs : List (List L2.Key × V)} {k : List L2.Key} {v : V} {u r : Value} {Q : Unit → Shared → Prop} (hu : X.A.units < cLine) (I : Inv X pins σ H s) (hD : H D = some (.dT kvs)) (eb : H b = some (.tup (k.map L2.kV))) (hz : kvs.length < sizeLine)
    (ry : RelV (.ref b) u) (rv : RelV v r) (h : ∀ s', Inv X pins σ (upd H D (.dT (putK kvs k v))) s' → Q () s') : wpAny (model X.prog X.w) X.A (dictSet D u r) Q E s := by
  cases (show u = Value.ref b from ry)
  obtain ⟨z, hd, xs, rel, dd⟩ := L2.dt_of I.hok hD
  have hzx : xs.length ≤ sizeLine := by rw [← Paired.length rel]; exact z
  have hl : (putK kvs k v).length ≤ sizeLine := by have := length_putK kvs k v; omega
  refine wpAny_dictSet_heap (hsz := hzx) (knd := tupleKind (mixKind X.prog X.w)) hu (L2.key_of I.hok eb) dd fun h' dd' hs => h _ ?_
  obtain ⟨q, es, ep, hq, h2, h3, h4, _, h5⟩ := dd'
  refine L2.d_write I (by rw [hD]; exact True.intro) hs ⟨q, hq⟩ ⟨hl, hd, _, (rel.put k eb rv).keeps fun c ys ec => ?_, q, es, ep, hq, h2, h3, h4, h5⟩
  rw [upd_ne (L2.ne_of ec hD (fun z => nomatch z))]
  exact ec
section
variable {X : Cx}
/-- {k: v for target in iter if ..}, keys ints or texts: D the new dict -/
def tDcT (wi : TI) (g : TG) (tt : TT) (tk tv : TE) (vs : List Nat) : TE := fun σ H Q => wi σ H fun J H1 => ∀ D, H1 D = none → ∃ W : Nat → Nat → Hp → Prop, (∃ m, W 0 m (upd H1 D (.dT []))) ∧ ∀ i m H, W i m H →
  (J.stop i H ∧ Q (.ref D) H) ∨ (J.go i H ∧ ∃ Nx : Hp → Prop, (∀ H', Nx H' → ∃ m', m' < m ∧ W (i + 1) m' H') ∧ ∀ x H', J.yld i H x H' → g x (L2.wipe σ vs) H' fun σ2 H2 => L2.wipe σ2 vs = L2.wipe σ vs ∧ tt σ2 H2 fun b H3 =>
    if b = true then tk σ2 H3 fun y H4 => tv σ2 H4 fun z H5 => ∃ kvs k b, y = .ref b ∧ H5 b = some (.tup (k.map L2.kV)) ∧ H5 D = some (.dT kvs) ∧ kvs.length < sizeLine ∧ Nx (upd H5 D (.dT (putK kvs k z))) else Nx H3)
theorem dcT_core {pins : List (Addr × Obj)} {s : Shared} {σ : L2.St} {H : Hp} {Q : VK} {kx vx tg iter : Expr} {ifs : List Expr} {scope : Scope} {own : List (PySem.Str × Nat)} {pos pos' : Pos} {wi : TI} {g : TG} {tt : TT} {tk tv : TE} {use : Option (Value → Sem Unit)} {Qf : Value → Shared → Prop}
    (hu : X.A.units < cLine) (hc : X.calm = true) (hN : X.N.Nodup) (I : Inv X pins σ H s) (hi : PI X tg iter wi) (ok : BlkOk X.N X.env.scope scope own)
    (hg : ∀ (s : Shared) (H : Hp) (C : Addr) (cl : List (PySem.Str × Addr)) (fp : List Addr), PG (X.blk s H scope (compEnvC scope cl C X.env) fp) tg g) (ht : ∀ (s : Shared) (H : Hp) (C : Addr) (cl : List (PySem.Str × Addr)) (fp : List Addr), PTs (X.blk s H scope (compEnvC scope cl C X.env) fp) ifs tt)
    (hk : ∀ (s : Shared) (H : Hp) (C : Addr) (cl : List (PySem.Str × Addr)) (fp : List Addr), PE (X.blk s H scope (compEnvC scope cl C X.env) fp) kx tk)
    (he : ∀ (s : Shared) (H : Hp) (C : Addr) (cl : List (PySem.Str × Addr)) (fp : List Addr), PE (X.blk s H scope (compEnvC scope cl C X.env) fp) vx tv) (hs : ∀ x, foldedSetIterable iter X.env x = pure x)
    (h : tDcT wi g tt tk tv (own.map (·.2)) σ H Q)
    (hRR : ∀ D C s' m H', Inv X pins σ H' s' → Q (.ref D) H' → s'.heap.Ns C m → FpOk X pins H' C → compPost (model X.prog X.w) X.A X.xe use Qf (.ref D) C (.ok .next) s') :
    wpAny (model X.prog X.w) X.A (comprehension (.DictComp kx vx [⟨tg, iter, ifs, 0⟩] scope pos) scope X.env pos' newDict false (eval iter X.env) use) Qf X.xe s := by
  have hfree : ∀ y ∈ scope.names, y.2 = .free → ∃ c, X.env.cells.lookup y.1 = some c := fun y hy e => by
    rcases ok.free y hy e with k | k
    · exact I.ok.has _ (.inl k)
    · exact I.ok.has _ (.inr k)
  refine wpAny_comprehension_free (use := use) rfl hs (closure_ok hfree) ok.kind (fun y hy e => by rw [ok.uniq y hy, e])
    (thn (hi.run pins s σ H _ I h) fun xv s1 hx => thn hx fun itv s2 h2 => ?_)
  obtain ⟨it, fp, tn, J, H2, e, I2, T, st2, f2, q⟩ := h2
  subst e
  refine wpAny_newObj_type (newEnv_comp ?_)
  generalize hD : s2.heap.objs.size = D
  have hDn : H2 D = none := I2.hok.fresh (Nat.le_of_eq hD)
  obtain ⟨W, ⟨m0, w0⟩, turn⟩ := q D hDn
  -- the new list
  generalize hs3 : ({ s2 with heap := s2.heap.push { cls := .type "dict", data := .dict #[] } } : Shared) = s3
  have I3 : Inv X pins σ (upd H2 D (.dT [])) s3 := by
    rw [← hs3]
    refine I2.laid (t' := s2.toks) (fun b o e => Heap.get?_push_of_some _ e) (Nat.le_of_eq hD) ?_
    rw [← hD]
    exact L2.dt_empty s2.heap I2.big
  have h3 : s3.heap = s2.heap.push { cls := .type "dict", data := .dict #[] } := by rw [← hs3]
  have sz : ∀ b ∈ fp, b < s2.heap.objs.size := fun b hb => by
    obtain ⟨o, e, _⟩ := T.obj _ _ st2 b hb
    exact Heap.lt_size e
  have f3 : ∀ b ∈ fp, FpOk X pins (upd H2 D (.dT [])) b ∧ b < s3.heap.objs.size := fun b hb => by
    have hlt := sz b hb
    refine ⟨⟨?_, (f2 b hb).2⟩, by rw [h3, Heap.size_push]; exact Nat.lt_succ_of_lt hlt⟩
    rw [upd_ne (by rw [← hD]; exact Nat.ne_of_lt hlt)]
    exact (f2 b hb).1
  have st3 : tn 0 s3.heap := T.keep _ _ _ st2 fun b _ o e => by rw [h3]; exact Heap.get?_push_of_some _ e
  have I4 := block_start I3 ok hN f3
  have pg := hg s3 (upd H2 D (.dT [])) s3.heap.objs.size (cellsFrom (s3.heap.objs.size + 1) scope.names (cloFrom X.env.cells scope.names [])) fp
  have pt := ht s3 (upd H2 D (.dT [])) s3.heap.objs.size (cellsFrom (s3.heap.objs.size + 1) scope.names (cloFrom X.env.cells scope.names [])) fp
  have pk := hk s3 (upd H2 D (.dT [])) s3.heap.objs.size (cellsFrom (s3.heap.objs.size + 1) scope.names (cloFrom X.env.cells scope.names [])) fp
  have pe := he s3 (upd H2 D (.dT [])) s3.heap.objs.size (cellsFrom (s3.heap.objs.size + 1) scope.names (cloFrom X.env.cells scope.names [])) fp
  show codeAny _ _ (.compStart (.DictComp kx vx [⟨tg, iter, ifs, 0⟩] scope pos) 0 (.ref it) (.ref D) (compEnvC scope (cellsFrom (s3.heap.objs.size + 1) scope.names (cloFrom X.env.cells scope.names [])) s3.heap.objs.size X.env)) (compPost (model X.prog X.w) X.A X.xe use Qf (.ref D) s3.heap.objs.size) { s3 with heap := pushCells (s3.heap.push { cls := .type "dict", data := .dict #[] }) scope.names }
  have nfp : ∀ b ∈ fp, (upd H2 D (.dT [])) b = none := fun b hb => (f3 b hb).1.1
  generalize hce : compEnvC scope (cellsFrom (s3.heap.objs.size + 1) scope.names (cloFrom X.env.cells scope.names [])) s3.heap.objs.size X.env = ce at I4 pg pt pk pe ⊢
  have cL : ce.locals = s3.heap.objs.size := by subst hce; rfl
  generalize hH3 : upd H2 D (.dT []) = H3 at I3 I4 pg pt pk pe w0 nfp f3
  generalize hs4 : ({ s3 with heap := pushCells (s3.heap.push { cls := .type "dict", data := .dict #[] }) scope.names } : Shared) = s4 at I4 ⊢
  have st4 : tn 0 s4.heap := T.keep _ _ _ st3 fun b _ o e => by rw [← hs4]; exact pushCells_keeps _ _ _ _ (Heap.get?_push_of_some _ e)
  have stat : ∀ {σ' : L2.St} {H' : Hp} {s' : Shared}, Inv (X.blk s3 H3 scope ce fp) [] σ' H' s' → (∀ b ∈ fp, H' b = none) → ∀ b ∈ fp, FpOk (X.blk s3 H3 scope ce fp) [] H' b := fun {σ' H' s'} I' hn b hb =>
    ⟨hn b hb, (I'.ok.exf b hb).1, I'.ok.exfs b hb, .inl hb, fun x c e => (I'.ok.exf b hb).2 x c e, fun p hp => absurd (show p ∈ ([] : List (Addr × Obj)) ++ [] from hp) (by simp)⟩
  have loop : codeAny (model X.prog X.w) X.A (.compLoop (.DictComp kx vx [⟨tg, iter, ifs, 0⟩] scope pos) 0 (.ref it) (.ref D) ce) (compPost (model X.prog X.w) X.A X.xe use Qf (.ref D) s3.heap.objs.size) s4 := by
    refine L2.compLoop_anyD (fun n s' => ∃ i H', Inv (X.blk s3 H3 scope ce fp) [] (L2.wipe σ (own.map (·.2))) H' s' ∧ tn i s'.heap ∧ (∀ b ∈ fp, H' b = none) ∧ W i n H') ?_ m0 ⟨0, H3, I4, st4, nfp, w0⟩
    rintro n s5 ⟨i, H5, I5, st5, n5, w5⟩
    rcases turn i n H5 w5 with ⟨stop, qq⟩ | ⟨go, Nx, hNx, step⟩
    · have td := T.done (X.blk s3 H3 scope ce fp) rfl rfl rfl hc i [] s5 _ H5 (fun _ _ => False) I5 (stat I5 n5) st5 stop
      refine thnF td fun r s6 ⟨hr, I6⟩ => ?_
      subst hr
      -- back in the def's context
      have I7 : Inv X pins σ H5 s6 := I3.call' (ch := fp) I6.os I6.base I6.hok I6.bare fun b hb => ⟨(f3 b hb).1.2.2.2.1, (f3 b hb).1.2.1, (f3 b hb).1.2.2.2.2.1, (f3 b hb).1.2.2.2.2.2⟩
      have nC : H5 s3.heap.objs.size = none := by
        have z : H5 ce.locals = none := I6.free
        rw [cL] at z
        exact z
      obtain ⟨m, hn, _⟩ := I6.loc
      have hn : s6.heap.Ns ce.locals m := hn
      rw [cL] at hn
      exact hRR D s3.heap.objs.size s6 m H5 I7 qq hn (I3.fpOk (Nat.le_refl _) nC)
    · have ti := T.item (X.blk s3 H3 scope ce fp) rfl rfl rfl hc i [] s5 _ H5 (fun _ _ => False) I5 (stat I5 n5) st5 go
      refine thnF ti fun r s6 ⟨u, hr, h6⟩ => ?_
      subst hr
      refine thnF h6 fun _ s7 ⟨x, H7, I7, r7, y7, st7, n7⟩ => ?_
      have I7' := I7.pinned (stat I7 n7) (T.obj _ _ st7)
      refine thnF (pg.run _ s7 _ H7 x u _ I7' r7 (step x H7 y7)) fun _ s8 ⟨σ8, H8, I8, hw8, q8⟩ => ?_
      refine thnF (pt.run _ s8 σ8 H8 _ I8 q8) fun b s9 ⟨H9, I9, q9⟩ => ?_
      -- the turn's end
      have fin : ∀ {s' : Shared} {H' : Hp}, Inv (X.blk s3 H3 scope ce fp) ([] ++ pinsAt fp s7.heap) σ8 H' s' → Nx H' → ∃ m, m < n ∧ ∃ i H', Inv (X.blk s3 H3 scope ce fp) [] (L2.wipe σ (own.map (·.2))) H' s' ∧ tn i s'.heap ∧ (∀ b ∈ fp, H' b = none) ∧ W i m H' := fun {s' H'} I' nx => by
        obtain ⟨m', hm, w'⟩ := hNx H' nx
        have pin' : ∀ b ∈ fp, ∀ o, s7.heap.get? b = some o → s'.heap.get? b = some o ∧ H' b = none := fun b hb o e =>
          let z := I'.pin (b, o) (List.mem_append_right _ (List.mem_append_right _ (mem_pinsAt hb e)))
          ⟨z.1, z.2.1⟩
        have hl : (L2.wipe σ (own.map (·.2))).length = σ8.length := by rw [← hw8, L2.wipe_length]
        refine ⟨m', hm, i + 1, H', (I'.unpinned (pins := [])).weak hl (fun j v e => ?_), T.keep _ _ _ st7 fun b hb o e => (pin' b hb o e).1, fun b hb => ?_, w'⟩
        · rw [← hw8] at e
          exact (L2.wipe_some e).1
        · obtain ⟨o, e, _⟩ := T.obj _ _ st7 b hb
          exact (pin' b hb o e).2
      cases b with
      | false =>
        simp only [Bool.false_eq_true, if_false] at q9 ⊢
        exact fin I9 q9
      | true =>
        simp only [if_true] at q9 ⊢
        refine thnF (pk.run _ s9 σ8 H9 _ I9 q9) fun z s10 ⟨yk, H10, I10, r10, q10⟩ => ?_
        refine thnF (pe.run _ s10 σ8 H10 _ I10 q10) fun z2 s11 ⟨yv, H11, I11, r11, kvs, k, kb, ek, hb11, hD11, hz11, nx⟩ => ?_
        subst ek
        exact d_dictSetT (X := X.blk s3 H3 scope ce fp) hu I11 hD11 hb11 hz11 r10 r11 fun s12 I12 => fin I12 nx
  exact codeAny_compStart_dict loop (T.self X.A 0 _ _ _ st4 loop)
/-- as a value -/
theorem pe_dcT {kx vx tg iter : Expr} {ifs : List Expr} {scope : Scope} {own : List (Str × Nat)} {pos : Pos} {wi : TI} {g : TG} {tt : TT} {tk tv : TE} (hu : X.A.units < cLine) (hc : X.calm = true) (hN : X.N.Nodup) (hi : PI X tg iter wi) (ok : BlkOk X.N X.env.scope scope own)
    (hg : ∀ (s : Shared) (H : Hp) (C : Addr) (cl : List (Str × Addr)) (fp : List Addr), PG (X.blk s H scope (compEnvC scope cl C X.env) fp) tg g) (ht : ∀ (s : Shared) (H : Hp) (C : Addr) (cl : List (Str × Addr)) (fp : List Addr), PTs (X.blk s H scope (compEnvC scope cl C X.env) fp) ifs tt)
    (hk : ∀ (s : Shared) (H : Hp) (C : Addr) (cl : List (Str × Addr)) (fp : List Addr), PE (X.blk s H scope (compEnvC scope cl C X.env) fp) kx tk)
    (he : ∀ (s : Shared) (H : Hp) (C : Addr) (cl : List (Str × Addr)) (fp : List Addr), PE (X.blk s H scope (compEnvC scope cl C X.env) fp) vx tv) (hs : ∀ x, foldedSetIterable iter X.env x = pure x := by intro _; rfl) :
    PE X (.DictComp kx vx [⟨tg, iter, ifs, 0⟩] scope pos) (tDcT wi g tt tk tv (own.map (·.2))) := by
  refine ⟨fun pins s σ H Q I h => ?_⟩
  rw [arm_eval_DictComp]
  refine dcT_core hu hc hN I hi ok hg ht hk he hs h fun D C s' m H' I' q hn f => ⟨m, hn, fun h'' sb => ?_⟩
  obtain ⟨f0, f1, f2, f3, f4, f5⟩ := f
  exact ⟨.ref D, H', I'.turned (t' := s'.toks) (fun b o hb e => (sb.2 b hb).trans e) f0 f1 f3 f4 f5, rfl, q⟩
end
section
variable {X : Cx} {kx vx tg iter : Expr} {ifs : List Expr} {scope : Scope} {own : List (PySem.Str × Nat)} {pos : Pos} {wi : TI} {g : TG} {tt : TT} {tk tv : TE}
theorem ps_setDcT {i : Nat} {y : Str} {py spos : Pos} (hu : X.A.units < cLine) (hc : X.calm = true) (hN : X.N.Nodup) (hy : X.N[i]? = some y) (hyl : X.env.scope.names.lookup y = some .local)
    (hsw : swapsWith (.DictComp kx vx [⟨tg, iter, ifs, 0⟩] scope pos) (some (.Name y py)) spos.line X.env = pure true) (hi : PI X tg iter wi) (ok : BlkOk X.N X.env.scope scope own)
    (hg : inC X scope fun Y => PG Y tg g) (ht : inC X scope fun Y => PTs Y ifs tt) (hk : inC X scope fun Y => PE Y kx tk) (he : inC X scope fun Y => PE Y vx tv) (hs : ∀ x, foldedSetIterable iter X.env x = pure x) :
    PS X (.Assign [.Name y py] (.DictComp kx vx [⟨tg, iter, ifs, 0⟩] scope pos) spos) (tAsg (tDcT wi g tt tk tv (own.map (·.2))) (gName i)) := by
  refine ⟨fun pins s σ H D I h => ?_⟩
  rw [exec_Assign_Name_used _ _ _ _ hsw]
  refine wpAny_bind (wpAny_standAt (wpAny_bind ?_))
  show wpAny _ X.A (do let _ ← comprehension (.DictComp kx vx [⟨tg, iter, ifs, 0⟩] scope pos) scope X.env (firstIterPos [⟨tg, iter, ifs, 0⟩] pos) newDict false (eval iter X.env) (some (assign (.Name y py) X.env))) _ _ s
  have h : tDcT wi g tt tk tv (own.map (·.2)) σ H (fun x H1 => gName i x σ H1 D.nx) := h
  exact wpAny_bind (thn (used_ok (D := D) (σ := σ) hN hy hyl fun Qf hR => dcT_core hu hc hN I hi ok hg ht hk he hs h hR) fun _ s' hq => wpAny_pure (wpAny_pure hq))
end
abbrev SK := Option (List Key → Bool)
def putT (kvs : List (List Key × Val)) (k : List Key) (v : Val) : List (List Key × Val) := if (kvs.any fun kv => decide (kv.1 = k)) = true then kvs.map (fun kv => if kv.1 = k then (kv.1, v) else kv) else kvs ++ [(k, v)]
def mergeT (kvs more : List (List Key × Val)) : List (List Key × Val) := more.foldl (fun acc kv => putT acc kv.1 kv.2) kvs
section
variable {st : SK}
def pairOfT (st : SK) : Val → Res (List Key × Val)
  | .tup [k, v] => (Res.ofOpt (keysOf k)).bind fun q => if hasK st q = true then .bad else .ok (q, v)
  | _ => .bad
def pairsOfT (st : SK) : List Val → Res (List (List Key × Val))
  | [] => .ok []
  | x :: r => (pairOfT st x).bind fun p => (pairsOfT st r).bind fun ps => .ok (p :: ps)
def dictOfLT (st : SK) : Val → Res Val
  | .lst ps => (pairsOfT st ps).bind fun kvs => .ok (.dcT (mergeT [] kvs))
  | _ => .bad
def eDcT (st : SK) (it : EI) (own : List Nat) (put : Put) (mt : EB) (mk mv : EX) : EX := fun env => (eComp it own put mt (e2tup mk mv) env).bind (dictOfLT st)
theorem pairOfT_nx (x : Val) (q : Exn) : pairOfT st x ≠ .exc q := by
  intro h
  unfold pairOfT at h
  split at h
  · rename_i k v
    cases hk : keysOf k with
    | none => rw [hk] at h; cases h
    | some z =>
      rw [hk] at h
      replace h : (if hasK st z = true then Res.bad else Res.ok (z, v)) = .exc q := h
      split at h <;> cases h
  · cases h
theorem pairOfT_tup {a b : Val} {p : List Key × Val} (h : pairOfT st (.tup [a, b]) = .ok p) : keysOf a = some p.1 ∧ hasK st p.1 = false ∧ p.2 = b := by
  have h : ((Res.ofOpt (keysOf a)).bind fun q => if hasK st q = true then .bad else Res.ok (q, b)) = .ok p := h
  cases hk : keysOf a with
  | none => rw [hk] at h; cases h
  | some z =>
    rw [hk] at h
    replace h : (if hasK st z = true then Res.bad else Res.ok (z, b)) = .ok p := h
    split at h
    · cases h
    · rename_i hn; cases h; exact ⟨rfl, by simpa using hn, rfl⟩
theorem pairsOfT_nx : ∀ (xs : List Val) (q : Exn), pairsOfT st xs ≠ .exc q
  | [], q, h => by cases h
  | x :: r, q, h => by
    unfold pairsOfT at h
    cases hx : pairOfT st x with
    | ok p =>
      rw [hx] at h
      simp only [Res.bind_ok] at h
      cases hp : pairsOfT st r with
      | ok ps => rw [hp] at h; cases h
      | exc e => exact pairsOfT_nx r e hp
      | bad => rw [hp] at h; cases h
    | exc e => exact pairOfT_nx x e hx
    | bad => rw [hx] at h; cases h
theorem pairsOfT_cons {x : Val} {r : List Val} {ks : List (List Key × Val)} (h : pairsOfT st (x :: r) = .ok ks) : ∃ p ps, pairOfT st x = .ok p ∧ pairsOfT st r = .ok ps ∧ ks = p :: ps := by
  unfold pairsOfT at h
  cases hx : pairOfT st x with
  | ok p =>
    rw [hx] at h
    simp only [Res.bind_ok] at h
    cases hp : pairsOfT st r with
    | ok ps => rw [hp] at h; cases h; exact ⟨p, ps, rfl, rfl, rfl⟩
    | exc e => rw [hp] at h; cases h
    | bad => rw [hp] at h; cases h
  | exc e => rw [hx] at h; cases h
  | bad => rw [hx] at h; cases h
theorem pairsOfT_append : ∀ {xs ys : List Val} {ks : List (List Key × Val)}, pairsOfT st (xs ++ ys) = .ok ks → ∃ k1 k2, pairsOfT st xs = .ok k1 ∧ pairsOfT st ys = .ok k2 ∧ ks = k1 ++ k2 ∧ k1.length = xs.length
  | [], ys, ks, h => ⟨[], ks, rfl, h, rfl, rfl⟩
  | x :: xs, ys, ks, h => by
    obtain ⟨p, ps, hx, hp, rfl⟩ := pairsOfT_cons h
    obtain ⟨k1, k2, h1, h2, rfl, h3⟩ := pairsOfT_append hp
    refine ⟨p :: k1, k2, ?_, h2, rfl, by simp [h3]⟩
    unfold pairsOfT
    rw [hx, h1]; rfl
theorem pairsOfT_len {xs : List Val} {ks : List (List Key × Val)} (h : pairsOfT st xs = .ok ks) : ks.length = xs.length := by
  obtain ⟨k1, k2, h1, h2, rfl, h3⟩ := pairsOfT_append (ys := []) (by rw [List.append_nil]; exact h)
  cases h2
  simp [h3]
end
def EvFDT (K : PySem.W.Frag) (C : Cn) (te : TE) (m : EX) : Prop := ∀ N H σ env, Inn N H → SV K N σ env → ∀ Q : VK, PostR C σ N H (m env) (fun x N' H' => ∃ xs, x = Val.dcT xs ∧ ∀ p vs, H' p = none → RTs K N' vs xs → Q (.ref p) (upd H' p (.dT vs))) → te σ H Q
structure SFDT (X : Cx) (C : Cn) (e : Expr) (te : TE) (m : EX) : Prop where
  pe : PE X e te
  ev : EvFDT X.K C te m
section
variable {K : PySem.W.Frag} {C : Cn} {N : Hp} {st : SK}
theorem RTs.length' : ∀ {vs : List (List L2.Key × V)} {xs : List (List Key × Val)}, RTs K N vs xs → vs.length = xs.length
  | _, _, .nil => rfl
  | _, _, .cons _ r => congrArg (· + 1) r.length'
theorem RTs.anyK {k : List Key} : ∀ {vs : List (List L2.Key × V)} {xs : List (List Key × Val)}, RTs K N vs xs → (vs.any fun kv => decide (kv.1 = k)) = (xs.any fun kv => decide (kv.1 = k))
  | _, _, .nil => rfl
  | _, _, .cons _ r => by rw [List.any_cons, List.any_cons, RTs.anyK r]
theorem RTs.mapK {k : List Key} {v : V} {x : Val} (h : RV K N v x) : ∀ {vs : List (List L2.Key × V)} {xs : List (List Key × Val)}, RTs K N vs xs → RTs K N (vs.map fun kv => if kv.1 = k then (kv.1, v) else kv) (xs.map fun kv => if kv.1 = k then (kv.1, x) else kv)
  | _, _, .nil => .nil
  | _, _, .cons (k := k0) h0 r => by
    rw [List.map_cons, List.map_cons]
    by_cases e : k0 = k
    · simp only [e, if_true]
      exact .cons h (RTs.mapK h r)
    · simp only [e, if_false]
      exact .cons h0 (RTs.mapK h r)
theorem RTs.snoc {k : List Key} {v : V} {x : Val} (h : RV K N v x) : ∀ {vs : List (List L2.Key × V)} {xs : List (List Key × Val)}, RTs K N vs xs → RTs K N (vs ++ [(k, v)]) (xs ++ [(k, x)])
  | _, _, .nil => .cons h .nil
  | _, _, .cons h0 r => .cons h0 (RTs.snoc h r)
theorem RTs.put {k : List Key} {v : V} {x : Val} {vs : List (List L2.Key × V)} {xs : List (List Key × Val)} (r : RTs K N vs xs) (h : RV K N v x) : RTs K N (putK vs k v) (putT xs k x) := by
  unfold putK putT
  rw [r.anyK]
  split
  · exact r.mapK h
  · exact r.snoc h
section
variable {wi : TI} {it : EI} {g : TG} {put : Put} {is own : List Nat} {tt : TT} {tk tv : TE} {mt : EB} {mk mv : EX}
/-- one entry is written -/
theorem dcT_entry {N5 H5 N1 H1 : Hp} {D : Addr} {σ3 : L2.St} {e5 : Env} {acc : List (List L2.Key × V)} {ys : List (List Key × Val)} {r' : List Val} {yv : Val} {ks k2 fin : List (List Key × Val)} {G : Hp → Prop} (kt : NoKT K st) (hk : EvE K (C0 C) tk mk) (hv : EvE K (C0 C) tv mv)
    (u : Inn N5 H5) (s : SV K N5 σ3 e5) (hel : e2tup mk mv e5 = .ok yv) (hks : pairsOfT st (yv :: r') = .ok ks) (hm : mergeT ys (ks ++ k2) = fin) (hl : ys.length + (ks.length + k2.length) ≤ 16777216)
    (hN : Sub N1 N5) (back : ∀ N4 H4, Gr N5 H5 N4 H4 → CPo N1 H1 D (.dT acc) N4 H4) (ra : RTs K N5 acc ys)
    (nx : ∀ N4 H4 acc' ys' ks', Sub N5 N4 → CPo N1 H1 D (.dT acc') N4 H4 → RTs K N4 acc' ys' → pairsOfT st r' = .ok ks' → mergeT ys' (ks' ++ k2) = fin → ys'.length + (ks'.length + k2.length) ≤ 16777216 → G H4) :
    tk σ3 H5 fun y H7 => tv σ3 H7 fun z H8 => ∃ kvs k b, y = .ref b ∧ H8 b = some (.tup (k.map L2.kV)) ∧ H8 D = some (.dT kvs) ∧ kvs.length < sizeLine ∧ G (upd H8 D (.dT (putK kvs k z))) := by
  obtain ⟨a, b, ha, hb, rfl⟩ := e2tup_ok hel
  obtain ⟨p, ps, hp, hps, rfl⟩ := pairsOfT_cons hks
  obtain ⟨hq, hn0, rfl⟩ := pairOfT_tup hp
  refine hk N5 H5 σ3 e5 u s _ ?_
  rw [ha]
  intro N6 H6 g6 v1 rv1
  refine hv N6 H6 σ3 e5 g6.nh (s.mono g6.nn) _ ?_
  rw [hb]
  intro N7 H7 g7 v2 rv2
  have p7 := back N7 H7 (g6.trans g7)
  have ra7 : RTs K N7 acc ys := RTs.mono (g6.nn.trans g7.nn) _ ra
  have hlen : acc.length = ys.length := ra7.length'
  obtain ⟨kb, rfl, hkb⟩ := key_plain kt rv1 hq hn0
  refine ⟨acc, p.1, kb, rfl, g7.nh _ _ (g7.nn _ _ hkb), p7.at, by rw [hlen, line_eq]; simp only [List.length_cons] at hl; omega, ?_⟩
  have rp := ra7.put (k := p.1) rv2
  refine nx N7 _ (putK acc p.1 v2) (putT ys p.1 p.2) ps (g6.nn.trans g7.nn) (p7.put _) rp hps hm ?_
  have h1 : (putT ys p.1 p.2).length = (putK acc p.1 v2).length := rp.length'.symm
  have h2 := length_putK acc p.1 v2
  simp only [List.length_cons] at hl
  omega
theorem efd_dcT (hi : EvI K C wi it) (hp : EvP K g put is) (hsub : ∀ i ∈ is, i ∈ own) (ht : EvB K (C0 C) tt mt) (kt : NoKT K st) (hk : EvE K (C0 C) tk mk) (hv : EvE K (C0 C) tv mv) :
    EvFDT K C (tDcT wi g tt tk tv own) (eDcT st it own put mt mk mv) := fun N H σ env e s Q h => by
  have h : PostR C σ N H ((it env).bind fun xs => (if xs.length ≤ 16777216 then (compL put mt (e2tup mk mv) (wipeE env own) xs).bind fun r => Res.ok (Val.lst r) else .bad).bind (dictOfLT st)) (fun x N' H' => ∃ xs, x = Val.dcT xs ∧ ∀ p vs, H' p = none → RTs K N' vs xs → Q (.ref p) (upd H' p (.dT vs))) := by
    rw [← Res.bind_assoc']; exact h
  refine hi N H σ env e s _ (PostR.imp (PostR.bind h) fun xs N1 H1 g1 h1 J hJ => ?_)
  intro D hD
  obtain ⟨G, Y, w, hG, hY⟩ := hJ
  by_cases hsz : xs.length ≤ 16777216
  case neg => rw [if_neg hsz] at h1; exact h1.elim
  rw [if_pos hsz] at h1
  cases hc : compL put mt (e2tup mk mv) (wipeE env own) xs with
  | bad => rw [hc] at h1; exact h1.elim
  | exc q => exact absurd hc (compL_nx _ _)
  | ok r =>
    rw [hc] at h1
    simp only [Res.bind_ok] at h1
    cases hps : pairsOfT st r with
    | bad => have h1 : PostR C σ N1 H1 ((pairsOfT st r).bind fun kvs => Res.ok (Val.dcT (mergeT [] kvs))) _ := h1; rw [hps] at h1; exact h1.elim
    | exc q => exact absurd hps (pairsOfT_nx _ _)
    | ok ks =>
    have h1 : PostR C σ N1 H1 ((pairsOfT st r).bind fun kvs => Res.ok (Val.dcT (mergeT [] kvs))) (fun x N' H' => ∃ xs, x = Val.dcT xs ∧ ∀ p vs, H' p = none → RTs K N' vs xs → Q (.ref p) (upd H' p (.dT vs))) := h1
    rw [hps] at h1
    have fin : ∀ N' H', Gr N1 H1 N' H' → ∀ p vs, H' p = none → RTs K N' vs (mergeT [] ks) → Q (.ref p) (upd H' p (.dT vs)) := fun N' H' g p vs => by
      obtain ⟨ys, e1, h2⟩ := h1 N' H' g
      cases e1
      exact h2 p vs
    have s1 : SV K N1 σ env := s.mono g1.nn
    have hkl := pairsOfT_len hps
    have hcl := compL_len hc
    let P1 : Nat → Hp → Prop := fun i H' => ∃ N' acc ys rest kr, CPo N1 H1 D (.dT acc) N' H' ∧ RTs K N' acc ys ∧ compL put mt (e2tup mk mv) (wipeE env own) (xs.drop i) = .ok rest ∧ pairsOfT st rest = .ok kr ∧ mergeT ys (kr ++ []) = mergeT [] ks ∧ ys.length + (kr.length + ([] : List (List Key × Val)).length) ≤ 16777216
    refine walk_W w P1
      ⟨N1, [], [], r, ks, CPo.start g1.nh hD, .nil, by rw [List.drop_zero]; exact hc, hps, by rw [List.append_nil], by simp only [List.length_nil]; omega⟩ (fun i H' _ ⟨N', acc, ys, rest, kr, p, _⟩ => hG H' (p.sub.low p.nn)) ?_ ?_
    · rintro i x Hi Hx hi ⟨N', acc, ys, rest, kr, p, ra, hrest, hkr, hmr, hlr⟩ y
      obtain ⟨Nx, xv, gx, hxi, rx⟩ := hY i _ x Hx hi (p.sub.low p.nn) y
      obtain ⟨Nu, u1, u3, u2, back⟩ := p.turn hD p.nn gx
      rw [List.drop_eq_getElem_cons hi] at hrest
      have hxe : xs[i] = xv := by rw [List.getElem?_eq_getElem hi] at hxi; exact Option.some.inj hxi
      rw [hxe] at hrest
      obtain ⟨e1, b, hput, hb, hways⟩ := compL_cons hrest
      refine hp Nu Hx (L2.wipe σ own) (wipeE env own) x xv e1 u2 (rx.mono u1) hput _ fun l0 hl he1 => ?_
      refine ⟨by rw [wipe_sets (fun t ht => hsub _ (hl t ht).1), wipe_wipe fun v hv => hv], ?_⟩
      have s2 : SV K Nu (setsS (L2.wipe σ own) l0) e1 := by
        rw [he1]
        exact ((s1.mono (fun a o q => u3 a o (p.nn a o q))).wipe own).sets fun t ht => (hl t ht).2
      refine ht Nu Hx _ e1 u2 s2 _ ?_
      rw [hb]
      intro N6 H6 g6
      have n6 : Sub N' N6 := u3.trans g6.nn
      rcases hways with ⟨rfl, yv, r', hel, hr', rfl⟩ | ⟨rfl, hr'⟩
      · rw [if_pos rfl]
        exact dcT_entry (G := P1 (i + 1)) kt hk hv g6.nh (s2.mono g6.nn) hel hkr hmr hlr (p.nn.trans n6) (fun N7 H7 g7 => back N7 H7 (g6.trans g7)) (RTs.mono n6 _ ra) fun N7 H7 acc' ys' ks' n7 p7 r7 hks' hm' hl' => ⟨N7, acc', ys', r', ks', p7, r7, hr', hks', hm', hl'⟩
      · exact ⟨N6, acc, ys, rest, kr, back N6 H6 g6, RTs.mono n6 _ ra, hr', hkr, hmr, hlr⟩
    · rintro H' ⟨N', acc, ys, rest, kr, ⟨Hn, g2, hn, rfl⟩, ra, hrest, hkr, hmr, hlr⟩
      rw [List.drop_length] at hrest
      cases hrest
      cases hkr
      have hmr : ys = mergeT [] ks := hmr
      subst hmr
      exact fin N' Hn g2 D acc hn ra
end
end
structure SFDcT (X : Cx) (C : Cn) (e : Expr) (te : TE) (m : EX) : Prop where
  sd : SFDT X C e te m
  as : ∀ (i : Nat) (y : Str) (py spos : Pos), X.N.Nodup → X.N[i]? = some y → X.env.scope.names.lookup y = some .local → swapsWith e (some (.Name y py)) spos.line X.env = pure true → PS X (.Assign [.Name y py] e spos) (tAsg te (gName i))
section
variable {X : Cx} {C : Cn} {kx vx tg iter tg1 iter1 a : Expr} {ifs ifs1 : List Expr} {scope : Scope} {own : List (Str × Nat)} {own1 is is1 : List Nat} {pos p : Pos} {wi wi1 : TI} {it it1 : EI} {g g1 : TG} {put put1 : Put} {tt tt1 : TT} {mt mt1 : EB} {tk tv ta : TE} {mk mv ma : EX}
theorem EvFDT.e {K : PySem.W.Frag} {C : Cn} {te : TE} {m : EX} (hd : ∀ env x, m env = .ok x → ∃ xs, x = .dcT xs) (h : EvFDT K C te m) : EvE K C te m := fun N H σ env e s Q hq => by
  refine h N H σ env e s Q ?_
  cases hm : m env with
  | bad => rw [hm] at hq; exact hq.elim
  | exc q => rw [hm] at hq; exact hq
  | ok x =>
    rw [hm] at hq
    obtain ⟨xs, rfl⟩ := hd env x hm
    intro N' H' g
    refine ⟨xs, rfl, fun p vs hf r => ?_⟩
    have g2 := g.trans (Gr.new g.nh hf (o := .dT vs))
    exact hq _ _ g2 _ (.dcT upd_same (RTs.mono (fun a o q => by
      have hn : N' p = none := by
        cases hz : N' p with
        | none => rfl
        | some o' => have := g.nh p o' hz; rw [hf] at this; cases this
      rw [upd_ne (ne_of_none q hn)]; exact q) _ r))
theorem sdc_dcT {st : SK} (F : Fr X C) (kt : NoKT X.K st) (hi : SI X C tg iter wi it) (hp : inBlk X scope fun Y => STg Y tg g put is) (ht : inBlk X scope fun Y => STt Y (C0 C) ifs tt mt)
    (hk : inBlk X scope fun Y => SE Y (C0 C) kx tk mk) (he : inBlk X scope fun Y => SE Y (C0 C) vx tv mv) (hsub : ∀ i ∈ is, i ∈ own.map (·.2) := by decide) (hN : X.N.Nodup := by assumption) (ok : BlkOk X.N X.env.scope scope own := by exact blkOk_by (by rfl)) (hs : ∀ x, foldedSetIterable iter X.env x = pure x := by intro _; rfl) :
    SFDcT X C (.DictComp kx vx [⟨tg, iter, ifs, 0⟩] scope pos) (tDcT wi g tt tk tv (own.map (·.2))) (eDcT st it (own.map (·.2)) put mt mk mv) :=
  
  have huA : X.A.units < cLine := by have := F.hu; omega
  ⟨⟨pe_dcT huA F.ca hN hi.pi ok (fun s H Cc cl fp => (hp s H Cc cl fp).pe) (fun s H Cc cl fp => (ht s H Cc cl fp).pe) (fun s H Cc cl fp => (hk s H Cc cl fp).pe) (fun s H Cc cl fp => (he s H Cc cl fp).pe) hs,
    efd_dcT hi.ev (hp X.s_0 X.H_0 0 [] []).ev hsub (ht X.s_0 X.H_0 0 [] []).ev kt (hk X.s_0 X.H_0 0 [] []).ev (he X.s_0 X.H_0 0 [] []).ev⟩,
   fun i y py spos hN' hy hyl hsw => ps_setDcT huA F.ca hN' hy hyl hsw hi.pi ok (fun s H Cc cl fp => (hp s H Cc cl fp).pe) (fun s H Cc cl fp => (ht s H Cc cl fp).pe) (fun s H Cc cl fp => (hk s H Cc cl fp).pe) (fun s H Cc cl fp => (he s H Cc cl fp).pe) hs⟩
theorem bindLT_dcT {st : SK} {m : EX} (env : Env) (x : Val) (h : (m env).bind (dictOfLT st) = .ok x) : ∃ xs, x = .dcT xs := by
  cases hm : m env with
  | ok y =>
    rw [hm] at h
    replace h : dictOfLT st y = .ok x := h
    unfold dictOfLT at h
    split at h
    · rename_i ps
      cases hp : pairsOfT st ps with
      | ok ks => rw [hp] at h; cases h; exact ⟨_, rfl⟩
      | exc e => rw [hp] at h; cases h
      | bad => rw [hp] at h; cases h
    · cases h
  | exc e => rw [hm] at h; cases h
  | bad => rw [hm] at h; cases h
/-- x = {k: e for ..}, x a cell or on another line -/
theorem se_dcT {st : SK} {it : EI} {ow : List Nat} {put : Put} {mt : EB} {mk mv : EX} (h : SFDcT X C a ta (eDcT st it ow put mt mk mv)) : SE X C a ta (eDcT st it ow put mt mk mv) := ⟨h.sd.pe, EvFDT.e (fun env x hx => bindLT_dcT env x hx) h.sd.ev⟩
end
end Vm
noncomputable section
namespace Vm
def Ok0 (r : Flow) (N : Env → Prop) (R : Val → Prop) (B T : Env → Prop) : Prop := match r with
  | .next e => N e
  | .ret x _ => R x
  | .brk e => B e
  | .cont e => T e
  | _ => False
/-- how a statement ends: N onward, R a value returned, B behind a break, T behind a continue -/
structure Ok (r : Flow) (N : Env → Prop) (R : Val → Prop) (B : Env → Prop := fun _ => False) (T : Env → Prop := fun _ => False) : Prop where
  of : Ok0 r N R B T
theorem Ok_eq (r : Flow) (N R B T) : Ok r N R B T = Ok0 r N R B T := propext ⟨fun h => h.of, fun h => ⟨h⟩⟩
theorem Ok_next (e : Env) (N R B T) : Ok (.next e) N R B T = N e := Ok_eq _ _ _ _ _
theorem Ok_ret (x : Val) (e : Env) (N R B T) : Ok (.ret x e) N R B T = R x := Ok_eq _ _ _ _ _
theorem Ok_brk (e : Env) (N R B T) : Ok (.brk e) N R B T = B e := Ok_eq _ _ _ _ _
theorem Ok_cont (e : Env) (N R B T) : Ok (.cont e) N R B T = T e := Ok_eq _ _ _ _ _
theorem Ok_bind (r : Flow) (f : Env → Flow) (N R B T) : Ok (r.bind f) N R B T = Ok r (fun e => Ok (f e) N R B T) R B T := by
  cases r with
  | next e => rw [Ok_next]; rfl
  | _ => rw [Ok_eq, Ok_eq]; rfl
theorem Ok.imp {r : Flow} {N N' : Env → Prop} {R R' : Val → Prop} {B B' T T' : Env → Prop} (h : Ok r N R B T) (h1 : ∀ e, N e → N' e) (h2 : ∀ x, R x → R' x) (h3 : ∀ e, B e → B' e) (h4 : ∀ e, T e → T' e) : Ok r N' R' B' T' := by
  have h := h.of
  refine ⟨?_⟩
  cases r <;> first | exact h1 _ h | exact h2 _ h | exact h3 _ h | exact h4 _ h | exact h
theorem forL_ok {put : Put} {body : ST} {N R B T} : ∀ (xs : List Val) (I : Nat → Env → Prop) (env : Env), I 0 env →
    (∀ i (h : i < xs.length) env, I i env → ∃ e, put xs[i] env = .ok e ∧ Ok (body e) (I (i + 1)) R N (I (i + 1))) → (∀ env, I xs.length env → N env) → Ok (forL put body xs env) N R B T
  | [], I, env, h0, _, hN => ⟨hN env h0⟩
  | x :: xs, I, env, h0, hs, hN => by
    obtain ⟨e, he, hb⟩ := hs 0 (by simp) env h0
    have he : put x env = .ok e := he
    unfold forL
    rw [he]
    simp only [Res.nx_ok, Res.flow_ok]
    have tl : ∀ e', I 1 e' → Ok (forL put body xs e') N R B T := fun e' h' =>
      forL_ok xs (fun i => I (i + 1)) e' h' (fun i h env hi => hs (i + 1) (by simpa using h) env hi) fun env h => hN env h
    have hb := hb.of
    cases hq : body e with
    | next e' => rw [hq] at hb; exact tl e' hb
    | cont e' => rw [hq] at hb; exact tl e' hb
    | brk e' => rw [hq] at hb; exact ⟨hb⟩
    | ret v => rw [hq] at hb; exact ⟨hb⟩
    | exc q e' => rw [hq] at hb; exact ⟨hb⟩
    | bad => rw [hq] at hb; exact ⟨hb⟩
theorem whileL_ok {t : EB} {body : ST} {N R B T} (I : Nat → Env → Prop)
    (hs : ∀ k env, I k env → ∃ b, t env = .ok b ∧ (b = true → Ok (body env) (fun e => ∃ k', k' < k ∧ I k' e) R N (fun e => ∃ k', k' < k ∧ I k' e)) ∧ (b = false → N env)) :
    ∀ (n k : Nat) (env : Env), k < n → I k env → Ok (whileL t body n env) N R B T
  | 0, k, env, h, _ => by omega
  | n + 1, k, env, h, hi => by
    obtain ⟨b, hb, h1, h2⟩ := hs k env hi
    unfold whileL
    rw [hb]
    simp only [Res.flow_ok]
    cases b with
    | false => exact ⟨h2 rfl⟩
    | true =>
      have hb := (h1 rfl).of
      have tl : ∀ e, (∃ k', k' < k ∧ I k' e) → Ok (whileL t body n e) N R B T := fun e ⟨k', hk, hi'⟩ => whileL_ok I hs n k' e (by omega) hi'
      simp only [cond_true]
      cases hq : body env with
      | next e' => rw [hq] at hb; exact tl e' hb
      | cont e' => rw [hq] at hb; exact tl e' hb
      | brk e' => rw [hq] at hb; exact ⟨hb⟩
      | ret v => rw [hq] at hb; exact ⟨hb⟩
      | exc q e' => rw [hq] at hb; exact ⟨hb⟩
      | bad => rw [hq] at hb; exact ⟨hb⟩
theorem defn_ret {k n : Nat} {m : ST} {xs : List Val} {y : Val} (hk : xs.length = k) (h : Ok (m (startE n xs)) (fun _ => y = .non) (fun x => x = y)) : defn k n m xs = .ret y := by
  have h := h.of
  unfold defn
  rw [if_pos hk]
  cases hm : m (startE n xs) with
  | next e => rw [hm] at h; exact congrArg DR.ret (show y = .non from h).symm
  | ret x => rw [hm] at h; exact congrArg DR.ret h
  | brk e => rw [hm] at h; exact h.elim
  | cont e => rw [hm] at h; exact h.elim
  | exc q e => rw [hm] at h; exact h.elim
  | bad => rw [hm] at h; exact h.elim
theorem defn_some {k n : Nat} {m : ST} {xs : List Val} {P : Val → Prop} (hk : xs.length = k) (h : Ok (m (startE n xs)) (fun _ => P .non) P) : ∃ y, defn k n m xs = .ret y ∧ P y := by
  have h := h.of
  unfold defn
  rw [if_pos hk]
  cases hm : m (startE n xs) with
  | next e => rw [hm] at h; exact ⟨_, rfl, h⟩
  | ret x => rw [hm] at h; exact ⟨_, rfl, h⟩
  | brk e => rw [hm] at h; exact h.elim
  | cont e => rw [hm] at h; exact h.elim
  | exc q e => rw [hm] at h; exact h.elim
  | bad => rw [hm] at h; exact h.elim
section
variable {α β : Type}
theorem Ok_cond (c : Bool) (a b : Flow) (N R B T) : Ok (bif c then a else b) N R B T = ((c = true → Ok a N R B T) ∧ (c = false → Ok b N R B T)) := by cases c <;> simp
theorem Ok_ite (c : Prop) [Decidable c] (a : Flow) (N R B T) : Ok (if c then a else .bad) N R B T = (c ∧ Ok a N R B T) := by
  by_cases h : c
  · simp [h]
  · rw [if_neg h, Ok_eq]; simp [h, Ok0]
theorem flow_ite (c : Prop) [Decidable c] (r : Res α) (e : Env) (f : α → Flow) : (if c then r else .bad).flow e f = if c then r.flow e f else .bad := by split <;> rfl
theorem bind_ite (c : Prop) [Decidable c] (r : Res α) (f : α → Res β) : (if c then r else .bad).bind f = if c then r.bind f else .bad := by split <;> rfl
theorem nx_ite' (c : Prop) [Decidable c] (r : Res α) : (if c then r else .bad).nx = if c then r.nx else .bad := by split <;> rfl
theorem flow_cond (c : Bool) (r s : Res α) (e : Env) (f : α → Flow) : (bif c then r else s).flow e f = bif c then r.flow e f else s.flow e f := by cases c <;> rfl
theorem bind_cond (c : Bool) (r s : Res α) (f : α → Res β) : (bif c then r else s).bind f = bif c then r.bind f else s.bind f := by cases c <;> rfl
theorem cond_andV (x y : Bool) : (bif x then Res.ok (Val.bl y) else Res.ok (Val.bl false)) = Res.ok (Val.bl (x && y)) := by cases x <;> rfl
theorem cond_orV (x y : Bool) : (bif x then Res.ok (Val.bl true) else Res.ok (Val.bl y)) = Res.ok (Val.bl (x || y)) := by cases x <;> rfl
theorem cond_and (x y : Bool) : (bif x then Res.ok y else Res.ok false) = Res.ok (x && y) := by cases x <;> rfl
theorem cond_or (x y : Bool) : (bif x then Res.ok true else Res.ok y) = Res.ok (x || y) := by cases x <;> rfl
theorem atI_nat (xs : List α) (k : Nat) : atI xs (k : Int) = xs[k]? := by
  unfold atI ixNat
  simp only [Int.natCast_nonneg, if_true, Int.ofNat_lt, Int.toNat_natCast]
  split
  · rfl
  · rename_i h; simp; omega
theorem atI_0 (xs : List α) : atI xs 0 = xs[0]? := atI_nat xs 0
theorem atI_1 (xs : List α) : atI xs 1 = xs[1]? := atI_nat xs 1
theorem atI_lit (xs : List α) (n : Nat) : atI xs (no_index (OfNat.ofNat n : Int)) = xs[n]? := atI_nat xs n
theorem datas_map {f : β → Val} : ∀ xs : List β, (∀ x ∈ xs, (f x).isData = true) → Val.isDatas (xs.map f) = true
  | [], _ => rfl
  | x :: xs, h => by
    show ((f x).isData && Val.isDatas (xs.map f)) = true
    rw [h x List.mem_cons_self, datas_map xs fun y hy => h y (List.mem_cons_of_mem _ hy)]; rfl
theorem depths_map {f : β → Val} {n : Nat} : ∀ xs : List β, (∀ x ∈ xs, (f x).depth ≤ n) → Val.depths (xs.map f) ≤ n
  | [], _ => Nat.zero_le _
  | x :: xs, h => Nat.max_le.mpr ⟨h x List.mem_cons_self, depths_map xs fun y hy => h y (List.mem_cons_of_mem _ hy)⟩
theorem cut_map (f : α → β) (xs : List α) (lo hi : Option Int) : cut (xs.map f) lo hi = (cut xs lo hi).map f := by
  unfold cut
  rw [List.length_map, List.map_take, List.map_drop]
theorem Ok_ofOpt (o : Option α) (e : Env) (f : α → Flow) (N R B T) : Ok ((Res.ofOpt o).flow e f) N R B T = ∃ a, o = some a ∧ Ok (f a) N R B T := by cases o <;> simp [Res.ofOpt, Res.flow, Ok_eq, Ok0]
theorem eqR_int (i j : Int) : eqR (.int i) (.int j) = .ok (i == j) := rfl
theorem eqR_bl (i j : Bool) : eqR (.bl i) (.bl j) = .ok (i == j) := rfl
theorem eqR_str (i j : Str) : eqR (.str i) (.str j) = .ok (i == j) := rfl
theorem max2 (i j : Int) : (if j > i then j else i) = max i j := by rw [Int.max_def]; split <;> split <;> omega
theorem min2 (i j : Int) : (if j < i then j else i) = min i j := by rw [Int.min_def]; split <;> split <;> omega
theorem vMax2 (i j : Int) : vMax [.int i, .int j] = .ok (.int (max i j)) := by
  show Res.ok (Val.int (if j > i then j else i)) = _
  rw [max2]
theorem vMax3 (i j k : Int) : vMax [.int i, .int j, .int k] = .ok (.int (max (max i j) k)) := by
  show Res.ok (Val.int (if k > (if j > i then j else i) then k else (if j > i then j else i))) = _
  rw [max2, max2]
theorem vMin2 (i j : Int) : vMin [.int i, .int j] = .ok (.int (min i j)) := by
  show Res.ok (Val.int (if j < i then j else i)) = _
  rw [min2]
theorem vDiv_int (i j : Int) : vDiv (.int i) (.int j) = if divOk j = true then .ok (.int (i / j)) else .bad := rfl
theorem vMod_int (i j : Int) : vMod (.int i) (.int j) = if 0 < j then .ok (.int (i % j)) else .bad := rfl
theorem vMul_int (i j : Int) : vMul (.int i) (.int j) = if mulOk i j = true then .ok (.int (i * j)) else .bad := rfl
theorem vPow_lit (i j : Int) (h1 : 0 ≤ j) (h2 : j ≤ 1000000) (h3 : i.natAbs < 18446744073709551616) : vPow (.int i) (.int j) = .ok (.int (i ^ j.toNat)) := if_pos (big_iff.mpr ⟨h1, h2, h3⟩)
theorem vPow18 : vPow (.int 10) (.int 18) = .ok (.int 1000000000000000000) := vPow_lit 10 18 (by omega) (by omega) (by decide)
theorem vPow12 : vPow (.int 10) (.int 12) = .ok (.int 1000000000000) := vPow_lit 10 12 (by omega) (by omega) (by decide)
theorem vPow11 : vPow (.int 10) (.int 11) = .ok (.int 100000000000) := vPow_lit 10 11 (by omega) (by omega) (by decide)
theorem vPow9 : vPow (.int 10) (.int 9) = .ok (.int 1000000000) := vPow_lit 10 9 (by omega) (by omega) (by decide)
theorem vPow6 : vPow (.int 10) (.int 6) = .ok (.int 1000000) := vPow_lit 10 6 (by omega) (by omega) (by decide)
theorem noLst_int (i : Int) : (Val.int i).noLst = true := rfl
theorem noLst_bl (i : Bool) : (Val.bl i).noLst = true := rfl
theorem noLst_str (i : Str) : (Val.str i).noLst = true := rfl
theorem noLst_non : Val.non.noLst = true := rfl
theorem noLst_tup (xs : List Val) : (Val.tup xs).noLst = Val.noLsts xs := rfl
theorem noLsts_nil : Val.noLsts [] = true := rfl
theorem noLsts_cons (x : Val) (xs : List Val) : Val.noLsts (x :: xs) = (x.noLst && Val.noLsts xs) := rfl
theorem noLsts_ints : ∀ ns : List Int, Val.noLsts (ns.map .int) = true
  | [] => rfl
  | _ :: ns => noLsts_ints ns
theorem mulOk_r (i j : Int) (h : -18446744073709551616 < j ∧ j < 18446744073709551616) : mulOk i j = true := big_iff.mpr (.inr h)
theorem mulOk_l (i j : Int) (h : -18446744073709551616 < i ∧ i < 18446744073709551616) : mulOk i j = true := big_iff.mpr (.inl h)
theorem divOk_iff {j : Int} : divOk j = true ↔ 0 < j ∧ j < 1267650600228229401496703205376 := big_iff
end
/-- what follows -/
structure Then (b : ST) (N : Env → Prop) (R : Val → Prop) (B T : Env → Prop) (e : Env) : Prop where
  mk ::
  of : Ok (b e) N R B T
theorem Ok_seq (a b : ST) (env : Env) (N R B T) : Ok (sSeq a b env) N R B T = Ok (a env) (Then b N R B T) R B T := by
  show Ok ((a env).bind b) N R B T = _
  rw [Ok_bind]
  exact congrArg (fun z => Ok (a env) z R B T) (funext fun e => propext ⟨fun h => ⟨h⟩, fun h => h.of⟩)
theorem Ok_for {it : EI} {put : Put} {body : ST} {env : Env} {xs : List Val} {N R B T} (hi : it (hide env) = .ok xs) (h : Ok (forL put body xs env) N R B T) : Ok (sFor it put body env) N R B T := by
  unfold sFor
  rw [hi]
  exact h
theorem vAdd_int (i j : Int) : vAdd (.int i) (.int j) = .ok (.int (i + j)) := rfl
theorem vAdd_lst (xs ys : List Val) : vAdd (.lst xs) (.lst ys) = if xs.length + ys.length ≤ 16777216 then .ok (.lst (xs ++ ys)) else .bad := rfl
theorem vAdd_tup (xs ys : List Val) : vAdd (.tup xs) (.tup ys) = if xs.length + ys.length ≤ 16777216 ∧ xs.isEmpty = false then .ok (.tup (xs ++ ys)) else .bad := rfl
theorem vLen_lst (xs : List Val) : vLen [.lst xs] = .ok (.int xs.length) := rfl
theorem vLen_tup (xs : List Val) : vLen [.tup xs] = .ok (.int xs.length) := rfl
theorem vIx_lst (xs : List Val) (i : Int) : vIx (.lst xs) (.int i) = Res.ofOpt (atI xs i) := rfl
theorem vIx_tup (xs : List Val) (i : Int) : vIx (.tup xs) (.int i) = Res.ofOpt (atI xs i) := rfl
theorem vIx_dct (kvs : List (Key × Val)) (k : Val) : vIx (.dct kvs) k = Res.ofOpt ((keyOfV k).bind (getV kvs)) := rfl
def S (l : List Nat) : Str := ⟨l.toArray⟩
def OkM0 (r : Flow) (N : Env → Prop) (R : Val → Env → Prop) (X : Exn → Env → Prop) (B T : Env → Prop) : Prop := match r with
  | .next e => N e
  | .ret x e => R x e
  | .exc q e => X q e
  | .brk e => B e
  | .cont e => T e
  | .bad => False
structure OkM (r : Flow) (N : Env → Prop) (R : Val → Env → Prop) (X : Exn → Env → Prop := fun _ _ => False) (B : Env → Prop := fun _ => False) (T : Env → Prop := fun _ => False) : Prop where
  of : OkM0 r N R X B T
theorem OkM_eq (r : Flow) (N R X B T) : OkM r N R X B T = OkM0 r N R X B T := propext ⟨fun h => h.of, fun h => ⟨h⟩⟩
theorem OkM_next (e : Env) (N R X B T) : OkM (.next e) N R X B T = N e := OkM_eq _ _ _ _ _ _
theorem OkM_ret (x : Val) (e : Env) (N R X B T) : OkM (.ret x e) N R X B T = R x e := OkM_eq _ _ _ _ _ _
theorem OkM_exc (q : Exn) (e : Env) (N R X B T) : OkM (.exc q e) N R X B T = X q e := OkM_eq _ _ _ _ _ _
theorem OkM_brk (e : Env) (N R X B T) : OkM (.brk e) N R X B T = B e := OkM_eq _ _ _ _ _ _
theorem OkM_cont (e : Env) (N R X B T) : OkM (.cont e) N R X B T = T e := OkM_eq _ _ _ _ _ _
theorem OkM_bind (r : Flow) (f : Env → Flow) (N R X B T) : OkM (r.bind f) N R X B T = OkM r (fun e => OkM (f e) N R X B T) R X B T := by
  cases r with
  | next e => rw [OkM_next]; rfl
  | _ => rw [OkM_eq, OkM_eq]; rfl
theorem OkM_cond (c : Bool) (a b : Flow) (N R X B T) : OkM (bif c then a else b) N R X B T = ((c = true → OkM a N R X B T) ∧ (c = false → OkM b N R X B T)) := by cases c <;> simp
theorem OkM_ite (c : Prop) [Decidable c] (a : Flow) (N R X B T) : OkM (if c then a else .bad) N R X B T = (c ∧ OkM a N R X B T) := by
  by_cases h : c
  · simp [h]
  · rw [if_neg h, OkM_eq]; simp [h, OkM0]
theorem OkM.imp {r : Flow} {N N' : Env → Prop} {R R' : Val → Env → Prop} {X X' : Exn → Env → Prop} {B B' T T' : Env → Prop} (h : OkM r N R X B T) (h1 : ∀ e, N e → N' e) (h2 : ∀ x e, R x e → R' x e) (h5 : ∀ q e, X q e → X' q e) (h3 : ∀ e, B e → B' e) (h4 : ∀ e, T e → T' e) : OkM r N' R' X' B' T' := by
  have h := h.of
  refine ⟨?_⟩
  cases r with
  | next e => exact h1 _ h
  | ret x e => exact h2 _ _ h
  | exc q e => exact h5 _ _ h
  | brk e => exact h3 _ h
  | cont e => exact h4 _ h
  | bad => exact h
structure ThenM (b : ST) (N : Env → Prop) (R : Val → Env → Prop) (X : Exn → Env → Prop) (B T : Env → Prop) (e : Env) : Prop where
  mk ::
  of : OkM (b e) N R X B T
theorem OkM_seq (a b : ST) (env : Env) (N R X B T) : OkM (sSeq a b env) N R X B T = OkM (a env) (ThenM b N R X B T) R X B T := by
  show OkM ((a env).bind b) N R X B T = _
  rw [OkM_bind]
  exact congrArg (fun z => OkM (a env) z R X B T) (funext fun e => propext ⟨fun h => ⟨h⟩, fun h => h.of⟩)
theorem RSflow_ite {α : Type} (c : Prop) [Decidable c] (r : RS α) (f : α → Env → Flow) : (if c then r else .bad).flow f = if c then r.flow f else .bad := by split <;> rfl
theorem RSbind_ite {α β : Type} (c : Prop) [Decidable c] (r : RS α) (f : α → Env → RS β) : (if c then r else .bad).bind f = if c then r.bind f else .bad := by split <;> rfl
theorem RSflow_cond {α : Type} (c : Bool) (r s : RS α) (f : α → Env → Flow) : (bif c then r else s).flow f = bif c then r.flow f else s.flow f := by cases c <;> rfl
theorem RSbind_cond {α β : Type} (c : Bool) (r s : RS α) (f : α → Env → RS β) : (bif c then r else s).bind f = bif c then r.bind f else s.bind f := by cases c <;> rfl
theorem rs_ite {α : Type} (c : Prop) [Decidable c] (r : Res α) (e : Env) : (if c then r else .bad).rs e = if c then r.rs e else .bad := by split <;> rfl
theorem rs_cond {α : Type} (c : Bool) (r s : Res α) (e : Env) : (bif c then r else s).rs e = bif c then r.rs e else s.rs e := by cases c <;> rfl
local macro_rules | `(tactic| simp! [$ts,*]) => `(tactic| simp only [Ok_seq, OkM_seq, OkM_next, OkM_ret, OkM_exc, OkM_brk, OkM_cont, OkM_bind, OkM_cond, OkM_ite, RS.bind_ok, RS.bind_exc, RS.bind_bad, Res.flow_exc, Flow.bind_exc, RS.flow_ok, RS.flow_exc, RS.flow_bad, Res.rs_ok, Res.rs_exc, Res.rs_bad, RSflow_ite, RSbind_ite, RSflow_cond, RSbind_cond, rs_ite, rs_cond, mH, mN, mNil, mCons, mLst, mTup, m1, m2, mIf, mAnd, mOr, mNot, mFn, mArgs, bmP, bmV, bmT, bmAnd, bmOr, bmNot, sSetM, sDropM, sRetM, sIfM, sRaise, sSet, sSetN, sOwn, sOwnN, sAppend, sAppendN, sFreeze, sForget, sIf, sRet, sRetN, sNext, sPut, sDrop, sAug, sOn, sItem, sItemN, itemPut, sBreak, sCont, hide, Slot.hide, eVar, eC, e1, e2, eArgs, eAnd, eOr, eNot, eIf, eChain, eCall, eCut, partOf, aNil, aCons, asBl, bVal, bTruth, bAnd, bOr, bNot, bYes, truth, vAdd_int, vAdd_lst, vAdd_tup, vSub, vMul_int, vDiv_int, vMod_int, vPow18, vPow12, vPow11, vPow9, vPow6, vNeg, vLt, vLe, vGt, vGe, vEq, vNe, eqR_int, eqR_bl, eqR_str, vIsi, Val.isOb, vTup, vLst, vLen_lst, vLen_tup, vInt, vIs, vIsNot, vIx_lst, vIx_tup, vIx_dct, vListOf, vTupOf, vIpAdd, vMax2, vMax3, vMin2, Val.ty, Ty.sub, noLst_int, noLst_bl, noLst_str, noLst_non, noLst_tup, noLsts_nil, noLsts_cons, noLsts_ints, pName, pTup, pTupL, putAll, iSeq, itemsOf, iRange1, iRange2, DR.res, Res.ofOpt_some, Res.ofOpt_none, Res.bind_ok, Res.bind_exc, Res.bind_bad, Res.nx_ok, Res.flow_ok, Res.flow_bad, Flow.bind_next, Flow.bind_ret, Flow.bind_brk, Flow.bind_cont, Flow.bind_bad, Ok_next, Ok_ret, Ok_brk, Ok_cont, Ok_bind, Ok_cond, Ok_ite, Ok_ofOpt, flow_ite, bind_ite, nx_ite', flow_cond, bind_cond, cond_andV, cond_orV, cond_and, cond_or, atI_nat, atI_0, atI_1, atI_lit, startE, List.map_cons, List.map_nil, List.length_cons, List.length_nil, List.getElem?_cons_zero, List.getElem?_cons_succ, List.set_cons_zero, List.set_cons_succ, List.set_nil, List.replicate, List.append_nil, List.cons_append, List.nil_append, Nat.sub_self, Nat.reduceAdd, Nat.reduceSub, Nat.reduceLT, Nat.reduceLeDiff, Nat.reduceEqDiff, Int.reduceLE, Int.reduceLT, Int.reduceToNat, Int.reducePow, Int.reduceMul, Int.reduceAdd, Int.reduceSub, Int.reduceNeg, Int.cast_ofNat_Int, if_true, if_false, ↓reduceIte, reduceCtorEq, beq_self_eq_true, and_true, true_and, decide_eq_true_eq, decide_eq_false_iff_not, Bool.not_eq_true', Bool.not_eq_false', Bool.and_true, Bool.true_and, Bool.or_true, Bool.and_false, Bool.or_false, Bool.false_or, Bool.true_or, Bool.false_and, Bool.not_true, Bool.not_false, beq_iff_eq, forall_const, false_implies, Option.map_some, decide_true, decide_false, cond_true, cond_false, $ts,*])
def m_parts_ca_1 : ST := (sSet 3 (e2 vDiv (eVar 3) (e2 vIx (eVar 1) (eVar 4))))
def m_parts_cae_2 : ST := (sAppend 2 (e2 vMod (eArgs vInt (aCons (eVar 5) aNil)) (e2 vIx (eVar 1) (eVar 4))))
def m_parts_cae_1 : ST := (sSeq (sSet 5 (e2 vMod (eArgs vInt (aCons (e2 vAdd (e2 vAdd (e2 vMul (eVar 5) (eVar 5)) (e2 vMul (eC (.int 16807)) (eVar 4))) (eC (.int 5))) aNil)) (eC (.int 998244353))))
    m_parts_cae_2)
def m_parts_c_L : ST := (sIf (bVal (e2 vGe (eVar 3) (eC (.int 0)))) (sSeq (sAppend 2 (e2 vMod (eArgs vInt (aCons (eVar 3) aNil)) (e2 vIx (eVar 1) (eVar 4))))
    m_parts_ca_1) (sSeq (sSet 5 (e2 vMod (eArgs vInt (aCons (e2 vAdd (e2 vAdd (e2 vMul (eVar 0) (eC (.int 48271))) (e2 vMul (eVar 4) (eC (.int 69621)))) (eC (.int 11))) aNil)) (eC (.int 2147483647))))
    m_parts_cae_1))
def m_parts_c_F : ST := (sFor (iRange1 (eArgs vLen (aCons (eVar 1) aNil))) (pName 4) m_parts_c_L)
def m_parts_4 : ST := (sRet (eVar 2))
def m_parts_3 : ST := (sSeq (sFreeze 2) m_parts_4)
def m_parts_2 : ST := (sSeq m_parts_c_F
    m_parts_3)
def m_parts_1 : ST := (sSeq (sSet 3 (e2 vSub (eVar 0) (e2 vPow (eC (.int 10)) (eC (.int 18)))))
    m_parts_2)
def m_parts : ST := (sSeq (sOwn 2 (eArgs vLst aNil))
    m_parts_1)
/-- each part lies under its size -/
def Parts (ps sizes : List Int) : Prop := ps.length = sizes.length ∧ ∀ i (h : i < ps.length) (h' : i < sizes.length), 0 ≤ ps[i] ∧ ps[i] < sizes[i]
theorem map_get? {β : Type} (f : Int → β) (xs : List Int) (i : Nat) (h : i < xs.length) : (xs.map f)[i]? = some (f xs[i]) := by
  rw [List.getElem?_map, List.getElem?_eq_getElem h]; rfl
theorem smallI_nat {n : Nat} (h : n ≤ 16777216) : smallI (n : Int) = true := by
  exact big_iff.mpr ⟨by omega, by omega⟩
theorem range1_ok {a : EX} {env : Env} {n : Nat} (ha : a env = .ok (.int n)) (h : n ≤ 16777216) : iRange1 a env = .ok (rangeL 0 n) := by
  unfold iRange1
  rw [ha]
  simp only [Res.bind_ok, smallI_nat h, if_true, Int.toNat_natCast]
theorem range_get (lo : Int) (n i : Nat) (h : i < (rangeL lo n).length) : (rangeL lo n)[i] = .int (lo + i) := by simp [rangeL]
theorem range_len (lo : Int) (n : Nat) : (rangeL lo n).length = n := by simp [rangeL]
theorem Parts.nil : Parts [] [] := ⟨rfl, fun i h => by cases h⟩
theorem parts_ok (c : Int) (sizes : List Int) (hs : ∀ n ∈ sizes, 0 < n ∧ n < 18446744073709551616) (hl : sizes.length ≤ 100) : ∃ y, defn 2 6 m_parts [.int c, .lst (sizes.map .int)] = .ret y ∧ ∃ ps, y = .lst (ps.map .int) ∧ Parts ps sizes := by
  refine defn_some rfl ?_
  unfold m_parts
  simp! []
  refine Then.mk ?_; unfold m_parts_1; simp! []
  refine Then.mk ?_; unfold m_parts_2; simp! []
  unfold m_parts_c_F
  refine Ok_for (xs := rangeL 0 sizes.length) ?_ ?_
  · exact range1_ok (by simp! [List.length_map]) (by omega)
  refine forL_ok _ (fun i env => ∃ (r : Int) (ps : List Int) (s4 s5 : Slot), env = [.sh (.int c), .sh (.lst (sizes.map .int)), .oL (ps.map .int), .sh (.int r), s4, s5] ∧ i ≤ sizes.length ∧ Parts ps (sizes.take i)) _ ⟨_, [], .un, .un, rfl, Nat.zero_le _, Parts.nil⟩ ?_ ?_
  · rintro i hi env ⟨r, ps, s4, s5, rfl, hi', hp⟩
    rw [range_len] at hi
    rw [range_get, Int.zero_add]
    refine ⟨[.sh (.int c), .sh (.lst (sizes.map .int)), .oL (ps.map .int), .sh (.int r), .sh (.int i), s5], rfl, ?_⟩
    have hn := hs sizes[i] (List.getElem_mem hi)
    have hget : (sizes.map Val.int)[i]? = some (.int sizes[i]) := map_get? _ _ _ hi
    have hlen : ps.length = i := by rw [hp.1, List.length_take]; omega
    have hpow : sizes[i] < 1267650600228229401496703205376 := by have := hn.2; omega
    have step : ∀ (x r' : Int) (s4 s5 : Slot), 0 ≤ x → x < sizes[i] → ∃ (r : Int) (ps' : List Int) (s4' s5' : Slot), [Slot.sh (.int c), .sh (.lst (sizes.map .int)), .oL (ps.map .int ++ [.int x]), .sh (.int r'), s4, s5] = [.sh (.int c), .sh (.lst (sizes.map .int)), .oL (ps'.map .int), .sh (.int r), s4', s5'] ∧ i + 1 ≤ sizes.length ∧ Parts ps' (sizes.take (i + 1)) := by
      intro x r' s4 s5 h1 h2
      refine ⟨r', ps ++ [x], s4, s5, by simp, hi, ?_⟩
      refine ⟨by simp [hlen]; omega, fun j h h' => ?_⟩
      by_cases hj : j < i
      · have := hp.2 j (by omega) (by rw [List.length_take]; omega)
        simp only [List.getElem_append_left (show j < ps.length by omega), List.getElem_take] at this ⊢
        exact this
      · have hj' : j = i := by simp at h; omega
        subst hj'
        simp [hlen]
        exact ⟨h1, h2⟩
    unfold m_parts_c_L
    simp! [hget, List.length_map, hlen]
    refine ⟨fun h0 => ⟨hn.1, by omega, ?_⟩, fun h0 => ⟨mulOk_r _ _ (by omega), mulOk_r _ _ (by omega), ?_⟩⟩
    · refine Then.mk ?_; unfold m_parts_ca_1; simp! [hget]
      exact ⟨divOk_iff.mpr ⟨hn.1, hpow⟩, step _ _ _ _ (Int.emod_nonneg _ (by omega)) (Int.emod_lt_of_pos _ hn.1)⟩
    · refine Then.mk ?_; unfold m_parts_cae_1; simp! [hget]
      refine ⟨mulOk_r _ _ ?_, mulOk_l _ _ (by omega), ?_⟩
      · have h1 := Int.emod_nonneg (c * 48271 + ↑i * 69621 + 11) (show (2147483647 : Int) ≠ 0 by omega)
        have h2 := Int.emod_lt_of_pos (c * 48271 + ↑i * 69621 + 11) (show (0 : Int) < 2147483647 by omega)
        omega
      · refine Then.mk ?_; unfold m_parts_cae_2; simp! [hget, List.length_map, hlen]
        exact ⟨hn.1, by omega, step _ _ _ _ (Int.emod_nonneg _ (by omega)) (Int.emod_lt_of_pos _ hn.1)⟩
  · rintro env ⟨r, ps, s4, s5, rfl, _, hp⟩
    rw [range_len, List.take_length] at hp
    refine Then.mk ?_; unfold m_parts_3; simp! []
    refine Then.mk ?_; unfold m_parts_4; simp! []
    exact ⟨_, rfl, hp⟩
/-- a cell of the script (the laws' own helper) -/
def m_cell : ST := (sSeq (sIf (bVal (e2 vLt (eVar 1) (eArgs vLen (aCons (eVar 0) aNil)))) (sRet (e2 vIx (eVar 0) (eVar 1))) sNext)
    (sRet (eC (.int 0))))
theorem cell_ok (ns : List Int) (k : Nat) : ∃ c, defn 2 2 m_cell [.lst (ns.map .int), .int k] = .ret (.int c) := by
  suffices h : ∃ y, defn 2 2 m_cell [.lst (ns.map .int), .int k] = .ret y ∧ ∃ c, y = .int c by
    obtain ⟨y, h, c, rfl⟩ := h; exact ⟨c, h⟩
  refine defn_some rfl ?_
  unfold m_cell
  simp! [List.length_map]
  refine ⟨fun h => ?_, fun _ => Then.mk ?_⟩
  · rw [map_get? _ _ _ (by omega)]
    exact ⟨_, rfl, _, rfl⟩
  · simp! []
    exact ⟨_, rfl⟩
theorem Parts.nil' {ps : List Int} (h : Parts ps []) : ps = [] := List.eq_nil_of_length_eq_zero h.1
theorem Parts.cons {ps ns : List Int} {n : Int} (h : Parts ps (n :: ns)) : ∃ p ps', ps = p :: ps' ∧ (0 ≤ p ∧ p < n) ∧ Parts ps' ns := by
  obtain ⟨h1, h2⟩ := h
  cases ps with
  | nil => cases h1
  | cons p ps =>
    refine ⟨p, ps, rfl, h2 0 (by simp) (by simp), by simpa using h1, fun i h h' => ?_⟩
    exact h2 (i + 1) (by simpa using h) (by simpa using h')
theorem ixNat_0 (n : Nat) (h : 0 < n) : ixNat n 0 = some 0 := by unfold ixNat; rw [if_pos (by omega), if_pos (by omega)]; rfl
theorem ixNat_nat (n k : Nat) (h : k < n) : ixNat n (k : Int) = some k := by unfold ixNat; rw [if_pos (by omega), if_pos (by omega)]; rfl
end Vm
end
noncomputable section
namespace Vm
local macro_rules | `(tactic| simp! [$ts,*]) => `(tactic| simp only [Ok_seq, OkM_seq, OkM_next, OkM_ret, OkM_exc, OkM_brk, OkM_cont, OkM_bind, OkM_cond, OkM_ite, RS.bind_ok, RS.bind_exc, RS.bind_bad, Res.flow_exc, Flow.bind_exc, RS.flow_ok, RS.flow_exc, RS.flow_bad, Res.rs_ok, Res.rs_exc, Res.rs_bad, RSflow_ite, RSbind_ite, RSflow_cond, RSbind_cond, rs_ite, rs_cond, mH, mN, mNil, mCons, mLst, mTup, m1, m2, mIf, mAnd, mOr, mNot, mFn, mArgs, bmP, bmV, bmT, bmAnd, bmOr, bmNot, sSetM, sDropM, sRetM, sIfM, sRaise, sSet, sSetN, sOwn, sOwnN, sAppend, sAppendN, sFreeze, sForget, sIf, sRet, sRetN, sNext, sPut, sDrop, sAug, sOn, sItem, sItemN, itemPut, sBreak, sCont, hide, Slot.hide, eVar, eC, e1, e2, eArgs, eAnd, eOr, eNot, eIf, eChain, eCall, eCut, partOf, aNil, aCons, asBl, bVal, bTruth, bAnd, bOr, bNot, bYes, truth, vAdd_int, vAdd_lst, vAdd_tup, vSub, vMul_int, vDiv_int, vMod_int, vPow18, vPow12, vPow11, vPow9, vPow6, vNeg, vLt, vLe, vGt, vGe, vEq, vNe, eqR_int, eqR_bl, eqR_str, vIsi, Val.isOb, vTup, vLst, vLen_lst, vLen_tup, vInt, vIs, vIsNot, vIx_lst, vIx_tup, vIx_dct, vListOf, vTupOf, vIpAdd, vMax2, vMax3, vMin2, Val.ty, Ty.sub, noLst_int, noLst_bl, noLst_str, noLst_non, noLst_tup, noLsts_nil, noLsts_cons, noLsts_ints, pName, pTup, pTupL, putAll, iSeq, itemsOf, iRange1, iRange2, DR.res, Res.ofOpt_some, Res.ofOpt_none, Res.bind_ok, Res.bind_exc, Res.bind_bad, Res.nx_ok, Res.flow_ok, Res.flow_bad, Flow.bind_next, Flow.bind_ret, Flow.bind_brk, Flow.bind_cont, Flow.bind_bad, Ok_next, Ok_ret, Ok_brk, Ok_cont, Ok_bind, Ok_cond, Ok_ite, Ok_ofOpt, flow_ite, bind_ite, nx_ite', flow_cond, bind_cond, cond_andV, cond_orV, cond_and, cond_or, atI_nat, atI_0, atI_1, atI_lit, startE, List.map_cons, List.map_nil, List.length_cons, List.length_nil, List.getElem?_cons_zero, List.getElem?_cons_succ, List.set_cons_zero, List.set_cons_succ, List.set_nil, List.replicate, List.append_nil, List.cons_append, List.nil_append, Nat.sub_self, Nat.reduceAdd, Nat.reduceSub, Nat.reduceLT, Nat.reduceLeDiff, Nat.reduceEqDiff, Int.reduceLE, Int.reduceLT, Int.reduceToNat, Int.reducePow, Int.reduceMul, Int.reduceAdd, Int.reduceSub, Int.reduceNeg, Int.cast_ofNat_Int, if_true, if_false, ↓reduceIte, reduceCtorEq, beq_self_eq_true, and_true, true_and, decide_eq_true_eq, decide_eq_false_iff_not, Bool.not_eq_true', Bool.not_eq_false', Bool.and_true, Bool.true_and, Bool.or_true, Bool.and_false, Bool.or_false, Bool.false_or, Bool.true_or, Bool.false_and, Bool.not_true, Bool.not_false, beq_iff_eq, forall_const, false_implies, Option.map_some, decide_true, decide_false, cond_true, cond_false, $ts,*])
theorem compL_ok {α : Type} {put : Put} {tt : EB} {el : EX} {env : Env} (enc : α → Val) (p : α → Bool) (g : α → Val) : ∀ (xs : List α), (∀ x ∈ xs, ∃ e, put (enc x) env = .ok e ∧ tt e = .ok (p x) ∧ (p x = true → el e = .ok (g x))) → compL put tt el env (xs.map enc) = .ok ((xs.filter p).map g)
  | [], _ => rfl
  | x :: xs, h => by
    obtain ⟨e, h1, h2, h3⟩ := h x List.mem_cons_self
    have ih := compL_ok enc p g xs fun y hy => h y (List.mem_cons_of_mem _ hy)
    rw [List.map_cons]
    unfold compL
    rw [h1]
    simp only [Res.nx_ok, Res.bind_ok, h2]
    cases hp : p x with
    | false => simp only [cond_false, ih, List.filter_cons, hp]; rfl
    | true => simp only [cond_true, h3 hp, ih, Res.nx_ok, Res.bind_ok, List.filter_cons, hp, if_true, List.map_cons]
theorem compL_all {α : Type} {put : Put} {el : EX} {env : Env} (enc : α → Val) (g : α → Val) (xs : List α) (h : ∀ x ∈ xs, ∃ e, put (enc x) env = .ok e ∧ el e = .ok (g x)) : compL put bYes el env (xs.map enc) = .ok (xs.map g) := by
  have := compL_ok (put := put) (tt := bYes) (el := el) (env := env) enc (fun _ => true) g xs fun x hx => by
    obtain ⟨e, h1, h2⟩ := h x hx
    exact ⟨e, h1, rfl, fun _ => h2⟩
  rwa [List.filter_eq_self.mpr (fun _ _ => rfl)] at this
theorem eComp_ok {α : Type} {it : EI} {own : List Nat} {put : Put} {tt : EB} {el : EX} {env : Env} (enc : α → Val) (p : α → Bool) (g : α → Val) (xs : List α) (hi : it env = .ok (xs.map enc)) (hl : xs.length ≤ 16777216) (h : ∀ x ∈ xs, ∃ e, put (enc x) (wipeE env own) = .ok e ∧ tt e = .ok (p x) ∧ (p x = true → el e = .ok (g x))) : eComp it own put tt el env = .ok (.lst ((xs.filter p).map g)) := by
  unfold eComp
  rw [hi]
  simp only [Res.bind_ok]
  rw [if_pos (by rw [List.length_map]; exact hl), compL_ok enc p g xs h]
  rfl
theorem eComp_all {α : Type} {it : EI} {own : List Nat} {put : Put} {el : EX} {env : Env} (enc : α → Val) (g : α → Val) (xs : List α) (hi : it env = .ok (xs.map enc)) (hl : xs.length ≤ 16777216) (h : ∀ x ∈ xs, ∃ e, put (enc x) (wipeE env own) = .ok e ∧ el e = .ok (g x)) : eComp it own put bYes el env = .ok (.lst (xs.map g)) := by
  unfold eComp
  rw [hi]
  simp only [Res.bind_ok]
  rw [if_pos (by rw [List.length_map]; exact hl), compL_all enc g xs h]
  rfl
structure Rect where
  l : Str
  a : Int
  b : Int
  c : Int
  d : Int
def Rect.v (r : Rect) : Val := .tup [.str r.l, .int r.a, .int r.b, .int r.c, .int r.d]
def Rect.up (y : Int) (r : Rect) : Rect := ⟨r.l, r.a, r.b + y, r.c, r.d + y⟩
def m_isint' : ST := (sRet (eAnd (e1 (vIsi .int) (eVar 0)) (eNot (e1 (vIsi .bool) (eVar 0)))))
theorem isint_int (z : Int) : defn 1 1 m_isint' [.int z] = .ret (.bl true) := rfl
end Vm
end
noncomputable section
namespace Vm
open PySem
theorem aCons_ok {a : EX} {r : EL} {env : Env} {x : Val} {xs : List Val} (h1 : a env = .ok x) (h2 : r env = .ok xs) : aCons a r env = .ok (x :: xs) := by
  unfold aCons
  rw [h1]
  show (r env).bind _ = _
  rw [h2]
  rfl
theorem eCall_ok {f : Fn} {r : EL} {env : Env} {xs : List Val} {y : Val} (h : r env = .ok xs) (hf : f xs = .ret y) : eCall f r env = .ok y := by
  unfold eCall
  rw [h]
  show (f xs).res = _
  rw [hf]
  rfl
theorem sSet_ok {i : Nat} {a : EX} {env : Env} {x : Val} (h : a (hide env) = .ok x) (hl : i < env.length) : sSet i a env = .next (env.set i (.sh x)) := by
  unfold sSet
  rw [h]
  show (if i < env.length then _ else _) = _
  rw [if_pos hl]
theorem sDrop_ok {a : EX} {env : Env} {x : Val} (h : a env = .ok x) : sDrop a env = .next env := by
  unfold sDrop
  rw [h]
  rfl
theorem bVal_ok {a : EX} {env : Env} {b : Bool} (h : a env = .ok (.bl b)) : bVal a env = .ok b := by
  unfold bVal
  rw [h]
  rfl
theorem bTruth_ok {a : EX} {env : Env} {b : Bool} (h : a env = .ok (.bl b)) : bTruth a env = .ok b := by
  unfold bTruth
  rw [h]
  rfl
theorem bNot_ok {a : EB} {env : Env} {b : Bool} (h : a env = .ok b) : bNot a env = .ok (!b) := by
  unfold bNot
  rw [h]
  rfl
theorem bOr_no {a b : EB} {env : Env} (h : a env = .ok false) (h2 : b env = .ok false) : bOr a b env = .ok false := by
  unfold bOr
  rw [h]
  exact h2
theorem e2_ok {f : Val → Val → Res Val} {a b : EX} {env : Env} {x y z : Val} (h : a env = .ok x) (h2 : b env = .ok y) (h3 : f x y = .ok z) : Vm.e2 f a b env = .ok z := by
  unfold Vm.e2
  rw [h]
  show (b env).bind _ = _
  rw [h2]
  exact h3
theorem sRet_ok {a : EX} {env : Env} {x : Val} (h : a env = .ok x) : sRet a env = .ret x env := by
  unfold sRet
  rw [h]
  rfl
theorem bOr_ok {a b : EB} {env : Env} {x y : Bool} (h : a env = .ok x) (h2 : b env = .ok y) : bOr a b env = .ok (x || y) := by
  unfold bOr
  rw [h]
  show (bif x then Res.ok true else b env) = _
  rw [h2]
  cases x <;> rfl
theorem bAnd_ok {a b : EB} {env : Env} {x y : Bool} (h : a env = .ok x) (h2 : b env = .ok y) : bAnd a b env = .ok (x && y) := by
  unfold bAnd
  rw [h]
  show (bif x then b env else Res.ok false) = _
  rw [h2]
  cases x <;> rfl
end Vm
end
noncomputable section
namespace Vm
open PySem
section
variable {N : Env → Prop} {R : Val → Prop} {B T : Env → Prop} {env : Env} {k : ST}
theorem go_last {s : ST} (h : Ok (sSeq s sNext env) N R B T) : Ok (s env) N R B T := by
  have e : sSeq s sNext env = s env := by
    show (s env).bind sNext = s env
    cases s env <;> rfl
  rwa [e] at h
theorem go_end (h : N env) : Ok (sNext env) N R B T := ⟨h⟩
theorem go_assoc {a b : ST} (h : Ok (sSeq a (sSeq b k) env) N R B T) : Ok (sSeq (sSeq a b) k env) N R B T := by
  have e : sSeq (sSeq a b) k env = sSeq a (sSeq b k) env := by
    show ((a env).bind b).bind k = (a env).bind fun e => (b e).bind k
    cases a env <;> rfl
  rw [e]; exact h
theorem go_next (h : Ok (k env) N R B T) : Ok (sSeq sNext k env) N R B T := h
theorem go_set {i : Nat} {a : EX} {x : Val} (h : a (hide env) = .ok x) (hl : Nat.blt i env.length = true) (hk : Ok (k (env.set i (.sh x))) N R B T) : Ok (sSeq (sSet i a) k env) N R B T := by
  rw [Ok_seq, sSet_ok h (by rw [Nat.blt_eq] at hl; exact hl), Ok_next]
  exact ⟨hk⟩
theorem sOwn_go {i : Nat} {a : EX} {xs : List Val} (h : a (hide env) = .ok (.lst xs)) (hl : i < env.length) : sOwn i a env = .next (env.set i (.oL xs)) := by
  unfold sOwn
  rw [h]
  show (if i < env.length then _ else _) = _
  rw [if_pos hl]
theorem go_own {i : Nat} {a : EX} {xs : List Val} (h : a (hide env) = .ok (.lst xs)) (hl : Nat.blt i env.length = true) (hk : Ok (k (env.set i (.oL xs))) N R B T) : Ok (sSeq (sOwn i a) k env) N R B T := by
  rw [Ok_seq, sOwn_go h (by rw [Nat.blt_eq] at hl; exact hl), Ok_next]
  exact ⟨hk⟩
theorem go_freeze {i : Nat} {xs : List Val} (he : env[i]? = some (.oL xs)) (hk : Ok (k (env.set i (.sh (.lst xs)))) N R B T) : Ok (sSeq (sFreeze i) k env) N R B T := by
  have e : sFreeze i env = .next (env.set i (.sh (.lst xs))) := by unfold sFreeze; rw [he]
  rw [Ok_seq, e, Ok_next]
  exact ⟨hk⟩
theorem go_app {i : Nat} {a : EX} {xs : List Val} {x : Val} (he : env[i]? = some (.oL xs)) (h : a (hide env) = .ok x) (hl : xs.length < 16777216) (hk : Ok (k (env.set i (.oL (xs ++ [x])))) N R B T) : Ok (sSeq (sAppend i a) k env) N R B T := by
  have e : sAppend i a env = .next (env.set i (.oL (xs ++ [x]))) := by
    unfold sAppend
    rw [he]
    show ((a (hide env)).flow _ _) = _
    rw [h]
    show (if _ then _ else _) = _
    rw [if_pos hl]
  rw [Ok_seq, e, Ok_next]
  exact ⟨hk⟩
theorem go_appE {α : Type} {enc : α → Val} {i : Nat} {a : EX} {L : List α} (y : α) (he : env[i]? = some (.oL (L.map enc))) (h : a (hide env) = .ok (enc y)) (hl : L.length < 16777216) (hk : Ok (k (env.set i (.oL ((L ++ [y]).map enc)))) N R B T) : Ok (sSeq (sAppend i a) k env) N R B T := by
  rw [List.map_append] at hk
  exact go_app he h (by rw [List.length_map]; exact hl) hk
theorem go_if {t : EB} {a b : ST} {c : Bool} (h : t env = .ok c) (h1 : c = true → Ok (sSeq a k env) N R B T) (h2 : c = false → Ok (sSeq b k env) N R B T) : Ok (sSeq (sIf t a b) k env) N R B T := by
  have e : sSeq (sIf t a b) k env = if c then sSeq a k env else sSeq b k env := by
    show ((t env).flow env fun q => bif q then a env else b env).bind k = _
    rw [h]
    cases c <;> rfl
  rw [e]
  cases c with
  | true => exact h1 rfl
  | false => exact h2 rfl
theorem go_ret {a : EX} {x : Val} (h : a env = .ok x) (hR : R x) : Ok (sSeq (sRet a) k env) N R B T := by
  rw [Ok_seq, sRet_ok h, Ok_ret]
  exact hR
theorem go_for {it : EI} {put : Put} {body : ST} {xs : List Val} (P : Env → Prop) (hi : it (hide env) = .ok xs) (h : Ok (forL put body xs env) P R B T) (hk : ∀ e, P e → Ok (k e) N R B T) : Ok (sSeq (sFor it put body) k env) N R B T := by
  rw [Ok_seq]
  exact Ok_for hi (h.imp (fun e he => ⟨hk e he⟩) (fun _ h => h) (fun _ h => h) (fun _ h => h))
theorem go_while {n : Nat} {t : EB} {body : ST} (P : Env → Prop) (h : Ok (whileL t body n env) P R B T) (hk : ∀ e, P e → Ok (k e) N R B T) : Ok (sSeq (sWhile n t body) k env) N R B T := by
  rw [Ok_seq]
  exact h.imp (fun e he => ⟨hk e he⟩) (fun _ h => h) (fun _ h => h) (fun _ h => h)
theorem go_drop {a : EX} {x : Val} (h : a env = .ok x) (hk : Ok (k env) N R B T) : Ok (sSeq (sDrop a) k env) N R B T := by
  rw [Ok_seq, sDrop_ok h, Ok_next]
  exact ⟨hk⟩
end
theorem eArgs_go {f : List Val → Res Val} {r : EL} {env : Env} {xs : List Val} {y : Val} (h : r env = .ok xs) (hf : f xs = .ok y) : eArgs f r env = .ok y := by
  unfold eArgs
  rw [h]
  exact hf
theorem e1_ok {f : Val → Res Val} {a : EX} {env : Env} {x z : Val} (h : a env = .ok x) (h3 : f x = .ok z) : Vm.e1 f a env = .ok z := by
  unfold Vm.e1
  rw [h]
  exact h3
theorem eAnd_ok {a b : EX} {env : Env} {x y : Bool} (h : a env = .ok (.bl x)) (h2 : b env = .ok (.bl y)) : eAnd a b env = .ok (.bl (x && y)) := by
  unfold eAnd
  rw [h]
  show (bif x then b env else Res.ok (.bl false)) = _
  rw [h2]
  cases x <;> rfl
theorem eOr_ok {a b : EX} {env : Env} {x y : Bool} (h : a env = .ok (.bl x)) (h2 : b env = .ok (.bl y)) : eOr a b env = .ok (.bl (x || y)) := by
  unfold eOr
  rw [h]
  show (bif x then Res.ok (Val.bl true) else b env) = _
  rw [h2]
  cases x <;> rfl
theorem eNot_ok {a : EX} {env : Env} {x : Bool} (h : a env = .ok (.bl x)) : eNot a env = .ok (.bl (!x)) := by
  unfold eNot
  rw [h]
  rfl
theorem vEq_i (i j : Int) : vEq (.int i) (.int j) = .ok (.bl (decide (i = j))) := by
  show Res.ok (Val.bl (i == j)) = _
  rw [show (i == j) = decide (i = j) by rw [Bool.eq_iff_iff]; simp]
theorem vNe_i (i j : Int) : vNe (.int i) (.int j) = .ok (.bl (decide (i ≠ j))) := by
  show Res.ok (Val.bl (!(i == j))) = _
  rw [show (!(i == j)) = decide (i ≠ j) by rw [Bool.eq_iff_iff]; simp]
theorem vEq_s (x y : Str) : vEq (.str x) (.str y) = .ok (.bl (decide (x = y))) := by
  show Res.ok (Val.bl (x == y)) = _
  rw [show (x == y) = decide (x = y) by rw [Bool.eq_iff_iff]; simp]
theorem vNe_s (x y : Str) : vNe (.str x) (.str y) = .ok (.bl (decide (x ≠ y))) := by
  show Res.ok (Val.bl (!(x == y))) = _
  rw [show (!(x == y)) = decide (x ≠ y) by rw [Bool.eq_iff_iff]; simp]
theorem vLt_i (i j : Int) : vLt (.int i) (.int j) = .ok (.bl (decide (i < j))) := rfl
theorem vGt_i (i j : Int) : vGt (.int i) (.int j) = .ok (.bl (decide (j < i))) := rfl
theorem vGe_i (i j : Int) : vGe (.int i) (.int j) = .ok (.bl (decide (j ≤ i))) := rfl
theorem vIn_l0 (x : Str) (l : List Str) {ys : List Val} (h : ys = l.map .str) : vIn (.str x) (.lst ys) = .ok (.bl (decide (x ∈ l))) := by
  subst h
  have hf : (l.map Val.str).all Val.isFlat = true := by rw [List.all_map, List.all_eq_true]; intro k _; rfl
  show (if (true && (l.map Val.str).all Val.isFlat) = true then Res.ok (Val.bl (inFlat (.str x) (l.map .str))) else .bad) = _
  rw [hf, if_pos (by rfl)]
  unfold inFlat
  rw [List.any_map]
  congr 2
  rw [Bool.eq_iff_iff, List.any_eq_true, decide_eq_true_iff]
  constructor
  · rintro ⟨k, hk, h⟩
    have h : (k == x) = true := h
    rw [beq_iff_eq] at h
    exact h ▸ hk
  · intro h
    exact ⟨x, h, by show (x == x) = true; simp⟩
theorem vIn_2 (x a b : Str) : vIn (.str x) (.lst [.str a, .str b]) = .ok (.bl (decide (x ∈ [a, b]))) := vIn_l0 x [a, b] rfl
theorem vIn_3 (x a b c : Str) : vIn (.str x) (.lst [.str a, .str b, .str c]) = .ok (.bl (decide (x ∈ [a, b, c]))) := vIn_l0 x [a, b, c] rfl
theorem vIn_5 (x a b c d e : Str) : vIn (.str x) (.lst [.str a, .str b, .str c, .str d, .str e]) = .ok (.bl (decide (x ∈ [a, b, c, d, e]))) := vIn_l0 x [a, b, c, d, e] rfl
theorem forL_range {put : Put} {body : ST} {N R B T} (n : Nat) (I : Nat → Env → Prop) (env : Env) (h0 : I 0 env)
    (hs : ∀ i, i < n → ∀ env, I i env → ∃ e, put (.int (i : Int)) env = .ok e ∧ Ok (body e) (I (i + 1)) R N (I (i + 1))) (hN : ∀ env, I n env → N env) : Ok (forL put body ((List.range n).map fun (k : Nat) => Val.int (k : Int)) env) N R B T := by
  refine forL_ok _ I env h0 ?_ ?_
  · intro i hi env h
    rw [List.length_map, List.length_range] at hi
    rw [List.getElem_map, List.getElem_range]
    exact hs i hi env h
  · intro env h
    rw [List.length_map, List.length_range] at h
    exact hN env h
theorem range_nv (n : Nat) : rangeL 0 n = (List.range n).map fun (k : Nat) => Val.int (k : Int) := by
  unfold rangeL
  refine List.map_congr_left fun k _ => ?_
  rw [Int.zero_add]
theorem iRange_go {a : EX} {env : Env} {n : Nat} (h : a env = .ok (.int (n : Int))) (hn : n ≤ 16777216) : iRange1 a env = .ok ((List.range n).map fun (k : Nat) => Val.int (k : Int)) := by
  rw [← range_nv]
  exact range1_ok h hn
theorem go_range {n : Nat} {a : EX} {put : Put} {body k : ST} {env : Env} {N R B T} (I : Nat → Env → Prop) (ha : a (hide env) = .ok (.int (n : Int))) (hn : n ≤ 16777216) (h0 : I 0 env)
    (hs : ∀ i, i < n → ∀ env, I i env → ∃ e, put (.int (i : Int)) env = .ok e ∧ Ok (body e) (I (i + 1)) R (fun e => Ok (k e) N R B T) (I (i + 1))) (hN : ∀ env, I n env → Ok (k env) N R B T) : Ok (sSeq (sFor (iRange1 a) put body) k env) N R B T :=
  go_for _ (iRange_go ha hn) (forL_range n I env h0 hs hN) fun _ h => h
end Vm
end
noncomputable section
namespace Vm
namespace Lib
open PySem
def m__law_cell_1 : ST := (sRet (eC (.int 0)))
def m__law_cell : ST := (sSeq (sIf (bVal (e2 vLt (eVar 1) (eArgs vLen (aCons (eVar 0) aNil)))) (sRet (e2 vIx (eVar 0) (eVar 1))) sNext)
    m__law_cell_1)
def f__law_cell : Fn := defn 2 2 m__law_cell
def e__law_bare_1 : EX := (eComp (iSeq (e2 vIx (eVar 1) (eC (.int 2)))) [2] (pName 2) bYes (e2 vMod (eArgs vInt (aCons (eVar 2) aNil)) (e2 vIx (eVar 1) (eC (.int 0)))))
def m__law_bare_1 : ST := (sRet (eArgs vTup (aCons (e2 vIx (eVar 1) (eC (.int 0))) (aCons (eArgs vTup aNil) (aCons (eArgs vTupOf (aCons e__law_bare_1 aNil)) (aCons (eArgs vTup aNil) aNil))))))
def m__law_bare : ST := (sSeq (sIf (bOr (bVal (e2 vEq (e2 vIx (eVar 1) (eC (.int 0))) (eC (.int 0)))) (bVal (e2 vNe (e2 vMod (eArgs vInt (aCons (eCall f__law_cell (aCons (eVar 0) (aCons (eC (.int 2)) aNil))) aNil)) (eC (.int 8))) (eC (.int 5))))) (sRet (eVar 1)) sNext)
    m__law_bare_1)
def f__law_bare : Fn := defn 2 3 m__law_bare
def m__law_parts_ca_1 : ST := (sSet 3 (e2 vDiv (eVar 3) (e2 vIx (eVar 1) (eVar 4))))
def m__law_parts_cae_2 : ST := (sAppend 2 (e2 vMod (eArgs vInt (aCons (eVar 5) aNil)) (e2 vIx (eVar 1) (eVar 4))))
def m__law_parts_cae_1 : ST := (sSeq (sSet 5 (e2 vMod (eArgs vInt (aCons (e2 vAdd (e2 vAdd (e2 vMul (eVar 5) (eVar 5)) (e2 vMul (eC (.int 16807)) (eVar 4))) (eC (.int 5))) aNil)) (eC (.int 998244353))))
    m__law_parts_cae_2)
def m__law_parts_c_L : ST := (sIf (bVal (e2 vGe (eVar 3) (eC (.int 0)))) (sSeq (sAppend 2 (e2 vMod (eArgs vInt (aCons (eVar 3) aNil)) (e2 vIx (eVar 1) (eVar 4))))
    m__law_parts_ca_1) (sSeq (sSet 5 (e2 vMod (eArgs vInt (aCons (e2 vAdd (e2 vAdd (e2 vMul (eVar 0) (eC (.int 48271))) (e2 vMul (eVar 4) (eC (.int 69621)))) (eC (.int 11))) aNil)) (eC (.int 2147483647))))
    m__law_parts_cae_1))
def m__law_parts_c_F : ST := (sFor (iRange1 (eArgs vLen (aCons (eVar 1) aNil))) (pName 4) m__law_parts_c_L)
def m__law_parts_4 : ST := (sRet (eVar 2))
def m__law_parts_3 : ST := (sSeq (sFreeze 2) m__law_parts_4)
def m__law_parts_2 : ST := (sSeq m__law_parts_c_F
    m__law_parts_3)
def m__law_parts_1 : ST := (sSeq (sSet 3 (e2 vSub (eVar 0) (e2 vPow (eC (.int 10)) (eC (.int 18)))))
    m__law_parts_2)
def m__law_parts : ST := (sSeq (sOwn 2 (eArgs vLst aNil))
    m__law_parts_1)
def f__law_parts : Fn := defn 2 6 m__law_parts
def v_CONSTANTS : List (Str × Val) := [("tie0", .int 0), ("tie1", .int 1)]
def v_NANDS : Val := .tup [.str "not", .str "nand2", .str "nand3"]
def e_cell_value_1 : EX := (eComp (iSeq (eVar 1)) [2] (pName 2) bYes (e2 vEq (eVar 2) (eC (.int 1))))
def e_cell_value_2 : EX := (eComp (iSeq (eVar 1)) [2] (pName 2) bYes (e2 vEq (eVar 2) (eC (.int 1))))
def m_cell_value_2 : ST := (sRet (eArgs vInt (aCons (eNot (eArgs vAny (aCons e_cell_value_2 aNil))) aNil)))
def m_cell_value_1 : ST := (sSeq (sIf (bVal (e2 vIn (eVar 0) (eC v_NANDS))) (sRet (eArgs vInt (aCons (eNot (eArgs vAll (aCons e_cell_value_1 aNil))) aNil))) sNext)
    m_cell_value_2)
def m_cell_value : ST := (sSeq (sIf (bVal (e1 (vKIn v_CONSTANTS) (eVar 0))) (sRet (e1 (vKGet v_CONSTANTS) (eVar 0))) sNext)
    m_cell_value_1)
def f_cell_value : Fn := defn 2 3 m_cell_value
def e_settled_values_1 : EX := (eComp (iEnumV (eVar 1)) [10, 11] (pTup [10, 11]) bYes (eGet2 (eVar 3) (eVar 10) (eVar 11)))
def e_settled_values_2 : EX := (eComp (iSeq (eVar 7)) [10] (pName 10) bYes (e2 vIx (eVar 4) (eVar 10)))
def m_settled_values_c_1 : ST := (sAppend 4 (eGet2 (eVar 3) (eVar 8) (eVar 9)))
def m_settled_values_c_L : ST := (sSeq (sIf (bVal (e2 vEq (eVar 6) (eC (.str "latch")))) (sPopAtTo 5 9 (eC (.int 0))) (sSetN 9 (eCall f_cell_value (aCons (eVar 6) (aCons e_settled_values_2 aNil)))))
    m_settled_values_c_1)
def m_settled_values_c_F : ST := (sFor (iSeq (e2 vIx (eVar 0) (eC (.int 1)))) (pTup [6, 7, 8]) m_settled_values_c_L)
def m_settled_values_4 : ST := (sRet (eVar 4))
def m_settled_values_3 : ST := (sSeq (sFreeze 4) m_settled_values_4)
def m_settled_values_2 : ST := (sSeq m_settled_values_c_F
    m_settled_values_3)
def m_settled_values_1 : ST := (sSeq (sOwn 5 (eArgs vListOf (aCons (eVar 2) aNil)))
    m_settled_values_2)
def m_settled_values : ST := (sSeq (sOwn 4 e_settled_values_1)
    m_settled_values_1)
def f_settled_values : Fn := defn 4 12 m_settled_values
def e_latch_cells_1 : EX := (eComp (iSeq (e2 vIx (eVar 0) (eC (.int 1)))) [1] (pName 1) (bVal (e2 vEq (e2 vIx (eVar 1) (eC (.int 0))) (eC (.str "latch")))) (eVar 1))
def m_latch_cells : ST := (sRet e_latch_cells_1)
def f_latch_cells : Fn := defn 1 2 m_latch_cells
def m__law_kind_5 : ST := (sRet (eVar 4))
def m__law_kind_4 : ST := (sSeq (sIf (bAnd (bVal (e2 vIn (eVar 4) (eArgs vLst (aCons (eC (.str "nand2")) (aCons (eC (.str "nor2")) (aCons (eC (.str "nand3")) (aCons (eC (.str "nor3")) aNil))))))) (bVal (e2 vLt (eVar 1) (eArgs vInt (aCons (e2 vIx (eVar 4) (e1 vNeg (eC (.int 1)))) aNil))))) (sRet (e2 vIx (eArgs vLst (aCons (eC (.str "not")) (aCons (eC (.str "nand2")) aNil))) (e2 vSub (eVar 1) (eC (.int 1))))) sNext)
    m__law_kind_5)
def m__law_kind_3 : ST := (sSeq (sIf (bAnd (bVal (e2 vEq (eVar 1) (eC (.int 0)))) (bVal (e2 vNe (eVar 4) (eC (.str "latch"))))) (sRet (e2 vIx (eArgs vLst (aCons (eC (.str "tie0")) (aCons (eC (.str "tie1")) aNil))) (e2 vMod (eArgs vInt (aCons (e2 vIx (eVar 0) (eC (.int 1))) aNil)) (eC (.int 2))))) sNext)
    m__law_kind_4)
def m__law_kind_2 : ST := (sSeq (sIf (bAnd (bVal (e2 vEq (eVar 4) (eC (.str "latch")))) (bVal (e2 vEq (eVar 2) (eC (.int 4))))) (sSet 4 (eC (.str "not"))) sNext)
    m__law_kind_3)
def m__law_kind_1 : ST := (sSeq (sSet 4 (e2 vIx (e2 vAdd (eVar 3) (eArgs vLst (aCons (eC (.str "latch")) (aCons (eC (.str "latch")) (aCons (eC (.str "tie0")) (aCons (eC (.str "tie1")) aNil)))))) (e2 vIx (eVar 0) (eC (.int 0)))))
    m__law_kind_2)
def m__law_kind : ST := (sSeq (sSet 3 (eArgs vLst (aCons (eC (.str "not")) (aCons (eC (.str "not")) (aCons (eC (.str "nand2")) (aCons (eC (.str "nand2")) (aCons (eC (.str "nand2")) (aCons (eC (.str "nand3")) (aCons (eC (.str "nand3")) (aCons (eC (.str "nor2")) (aCons (eC (.str "nor2")) (aCons (eC (.str "nor2")) (aCons (eC (.str "nor3")) (aCons (eC (.str "nor3")) aNil))))))))))))))
    m__law_kind_1)
def f__law_kind : Fn := defn 3 5 m__law_kind
def m__law_drawn_c_L : ST := (sAppPop 4 3 (e2 vMod (eArgs vInt (aCons (e2 vIx (eVar 0) (e2 vAdd (eC (.int 1)) (eVar 5))) aNil)) (eArgs vLen (aCons (eVar 3) aNil))))
def m__law_drawn_c_F : ST := (sFor (iRange1 (eVar 1)) (pName 5) m__law_drawn_c_L)
def m__law_drawn_4 : ST := (sRet (eArgs vTupOf (aCons (eVar 4) aNil)))
def m__law_drawn_3 : ST := (sSeq (sFreeze 4) m__law_drawn_4)
def m__law_drawn_2 : ST := (sSeq m__law_drawn_c_F
    m__law_drawn_3)
def m__law_drawn_1 : ST := (sSeq (sOwn 4 (eArgs vLst aNil))
    m__law_drawn_2)
def m__law_drawn : ST := (sSeq (sOwn 3 (eRange1 .lst (eVar 2)))
    m__law_drawn_1)
def f__law_drawn : Fn := defn 3 6 m__law_drawn
def m__law_value_2 : ST := (sRet (eArgs vInt (aCons (e2 vLt (eArgs vSum (aCons (eVar 1) aNil)) (eArgs vLen (aCons (eVar 1) aNil))) aNil)))
def m__law_value_1 : ST := (sSeq (sIf (bVal (e2 vEq (eCut (eVar 0) none (some (eC (.int 3)))) (eC (.str "nor")))) (sRet (eArgs vInt (aCons (e2 vEq (eArgs vSum (aCons (eVar 1) aNil)) (eC (.int 0))) aNil))) sNext)
    m__law_value_2)
def m__law_value : ST := (sSeq (sIf (bVal (e2 vEq (eCut (eVar 0) none (some (eC (.int 3)))) (eC (.str "tie")))) (sRet (eArgs vInt (aCons (e2 vIx (eVar 0) (eC (.int 3))) aNil))) sNext)
    m__law_value_1)
def f__law_value : Fn := defn 2 2 m__law_value
def m__law_is_integer : ST := (sRet (eAnd (e1 (vIsi .int) (eVar 0)) (eNot (e1 (vIsi .bool) (eVar 0)))))
def f__law_is_integer : Fn := defn 1 1 m__law_is_integer
end Lib
end Vm
end
noncomputable section
namespace Vm
local macro_rules | `(tactic| simp! [$ts,*]) => `(tactic| simp only [Ok_seq, OkM_seq, OkM_next, OkM_ret, OkM_exc, OkM_brk, OkM_cont, OkM_bind, OkM_cond, OkM_ite, RS.bind_ok, RS.bind_exc, RS.bind_bad, Res.flow_exc, Flow.bind_exc, RS.flow_ok, RS.flow_exc, RS.flow_bad, Res.rs_ok, Res.rs_exc, Res.rs_bad, RSflow_ite, RSbind_ite, RSflow_cond, RSbind_cond, rs_ite, rs_cond, mH, mN, mNil, mCons, mLst, mTup, m1, m2, mIf, mAnd, mOr, mNot, mFn, mArgs, bmP, bmV, bmT, bmAnd, bmOr, bmNot, sSetM, sDropM, sRetM, sIfM, sRaise, sSet, sSetN, sOwn, sOwnN, sAppend, sAppendN, sFreeze, sForget, sIf, sRet, sRetN, sNext, sPut, sDrop, sAug, sOn, sItem, sItemN, itemPut, sBreak, sCont, hide, Slot.hide, eVar, eC, e1, e2, eArgs, eAnd, eOr, eNot, eIf, eChain, eCall, eCut, partOf, aNil, aCons, asBl, bVal, bTruth, bAnd, bOr, bNot, bYes, truth, vAdd_int, vAdd_lst, vAdd_tup, vSub, vMul_int, vDiv_int, vMod_int, vPow18, vPow12, vPow11, vPow9, vPow6, vNeg, vLt, vLe, vGt, vGe, vEq, vNe, eqR_int, eqR_bl, eqR_str, vIsi, Val.isOb, vTup, vLst, vLen_lst, vLen_tup, vInt, vIs, vIsNot, vIx_lst, vIx_tup, vIx_dct, vListOf, vTupOf, vIpAdd, vMax2, vMax3, vMin2, Val.ty, Ty.sub, noLst_int, noLst_bl, noLst_str, noLst_non, noLst_tup, noLsts_nil, noLsts_cons, noLsts_ints, pName, pTup, pTupL, putAll, iSeq, itemsOf, iRange1, iRange2, DR.res, Res.ofOpt_some, Res.ofOpt_none, Res.bind_ok, Res.bind_exc, Res.bind_bad, Res.nx_ok, Res.flow_ok, Res.flow_bad, Flow.bind_next, Flow.bind_ret, Flow.bind_brk, Flow.bind_cont, Flow.bind_bad, Ok_next, Ok_ret, Ok_brk, Ok_cont, Ok_bind, Ok_cond, Ok_ite, Ok_ofOpt, flow_ite, bind_ite, nx_ite', flow_cond, bind_cond, cond_andV, cond_orV, cond_and, cond_or, atI_nat, atI_0, atI_1, atI_lit, startE, List.map_cons, List.map_nil, List.length_cons, List.length_nil, List.getElem?_cons_zero, List.getElem?_cons_succ, List.set_cons_zero, List.set_cons_succ, List.set_nil, List.replicate, List.append_nil, List.cons_append, List.nil_append, Nat.sub_self, Nat.reduceAdd, Nat.reduceSub, Nat.reduceLT, Nat.reduceLeDiff, Nat.reduceEqDiff, Int.reduceLE, Int.reduceLT, Int.reduceToNat, Int.reducePow, Int.reduceMul, Int.reduceAdd, Int.reduceSub, Int.reduceNeg, Int.cast_ofNat_Int, if_true, if_false, ↓reduceIte, reduceCtorEq, beq_self_eq_true, and_true, true_and, decide_eq_true_eq, decide_eq_false_iff_not, Bool.not_eq_true', Bool.not_eq_false', Bool.and_true, Bool.true_and, Bool.or_true, Bool.and_false, Bool.or_false, Bool.false_or, Bool.true_or, Bool.false_and, Bool.not_true, Bool.not_false, beq_iff_eq, forall_const, false_implies, Option.map_some, decide_true, decide_false, cond_true, cond_false, $ts,*])
def bv (b : Bool) : Val := .int (b2i b)
theorem blsOf_map : ∀ bs : List Bool, blsOf (bs.map Val.bl) = some bs
  | [] => rfl
  | b :: bs => by show (blsOf (bs.map Val.bl)).map (b :: ·) = _; rw [blsOf_map bs]; rfl
theorem intsOf_map : ∀ ns : List Int, intsOf (ns.map Val.int) = some ns
  | [] => rfl
  | b :: bs => by show (intsOf (bs.map Val.int)).map (b :: ·) = _; rw [intsOf_map bs]; rfl
theorem bv_ints (bs : List Bool) : bs.map bv = (bs.map b2i).map Val.int := by rw [List.map_map]; rfl
theorem vAll_bls (bs : List Bool) : vAll [.lst (bs.map .bl)] = .ok (.bl (bs.all id)) := by
  show (Res.ofOpt (blsOf (bs.map Val.bl))).bind _ = _
  rw [blsOf_map]; rfl
theorem vAny_bls (bs : List Bool) : vAny [.lst (bs.map .bl)] = .ok (.bl (bs.any id)) := by
  show (Res.ofOpt (blsOf (bs.map Val.bl))).bind _ = _
  rw [blsOf_map]; rfl
theorem vSum_ints (ns : List Int) : vSum [.lst (ns.map .int)] = .ok (.int ns.sum) := by
  show (Res.ofOpt (intsOf (ns.map Val.int))).bind _ = _
  rw [intsOf_map]; rfl
/-- a walk, by what is left of it -/
theorem forL_ind {α : Type} {put : Put} {body : ST} {N : Env → Prop} {R : Val → Prop} {B T : Env → Prop} (enc : α → Val) (P : List α → Env → Prop)
    (hs : ∀ x xs env, P (x :: xs) env → ∃ e, put (enc x) env = .ok e ∧ Ok (body e) (P xs) R N (P xs)) (hN : ∀ env, P [] env → N env) : ∀ (xs : List α) (env : Env), P xs env → Ok (forL put body (xs.map enc) env) N R B T
  | [], env, h => ⟨hN env h⟩
  | x :: xs, env, h => by
    obtain ⟨e, he, hb⟩ := hs x xs env h
    rw [List.map_cons]
    unfold forL
    rw [he]
    simp only [Res.nx_ok, Res.flow_ok]
    have tl : ∀ e', P xs e' → Ok (forL put body (xs.map enc) e') N R B T := fun e' h' => forL_ind enc P hs hN xs e' h'
    have hb := hb.of
    cases hq : body e with
    | next e' => rw [hq] at hb; exact tl e' hb
    | cont e' => rw [hq] at hb; exact tl e' hb
    | brk e' => rw [hq] at hb; exact ⟨hb⟩
    | ret v => rw [hq] at hb; exact ⟨hb⟩
    | exc q e' => rw [hq] at hb; exact ⟨hb⟩
    | bad => rw [hq] at hb; exact ⟨hb⟩
theorem enumL_map {α : Type} (f : α → Val) : ∀ (xs : List α) (n : Nat), enumL n (xs.map f) = (xs.zipIdx n).map fun p => .tup [.int (p.2 : Nat), f p.1]
  | [], _ => rfl
  | x :: xs, n => by
    rw [List.map_cons, List.zipIdx_cons, List.map_cons, ← enumL_map f xs (n + 1)]
    rfl
structure Cell where
  k : Str
  ins : List Nat
  out : Nat
def iv (n : Nat) : Val := .int (n : Int)
def Cell.v (c : Cell) : Val := .tup [.str c.k, .tup (c.ins.map iv), iv c.out]
structure Circ where
  n : Nat
  cells : List Cell
  outs : List Nat
  lat : List Nat
def Circ.v (c : Circ) : Val := .tup [iv c.n, .tup (c.cells.map Cell.v), .tup (c.outs.map iv), .tup (c.lat.map iv)]
def kLatch : Str := "latch"
def kNot : Str := "not"
def kNand2 : Str := "nand2"
def kNand3 : Str := "nand3"
def kNor2 : Str := "nor2"
def kNor3 : Str := "nor3"
def kTie0 : Str := "tie0"
def kTie1 : Str := "tie1"
def arity (k : Str) : Nat := if k = kTie0 ∨ k = kTie1 then 0 else if k = kNand3 ∨ k = kNor3 then 3 else if k = kNand2 ∨ k = kNor2 then 2 else 1
def plainKinds : List Str := [kNot, kNand2, kNand3, kNor2, kNor3, kTie0, kTie1]
def cval (k : Str) (bs : List Bool) : Bool := if k = kTie0 then false else if k = kTie1 then true else if k = kNor2 ∨ k = kNor3 then !(bs.any id) else !(bs.all id)
def latches (cs : List Cell) : List Cell := cs.filter fun c => decide (c.k = kLatch)
/-- good cells, the first one's output m, total nets in all -/
structure GCell (total m : Nat) (c : Cell) : Prop where
  kind : c.k = kLatch ∨ c.k ∈ plainKinds
  ar : c.ins.length = arity c.k
  out : c.out = m
  lt : c.k ≠ kLatch → ∀ i ∈ c.ins, i < m
  tot : ∀ i ∈ c.ins, i < total
  nd : c.ins.Nodup
inductive GCells (total : Nat) : Nat → List Cell → Prop
  | nil (m : Nat) : GCells total m []
  | cons {m : Nat} {c : Cell} {cs : List Cell} : GCell total m c → GCells total (m + 1) cs → GCells total m (c :: cs)
structure Circ.Good (c : Circ) : Prop where
  n6 : c.n ≤ 6
  c40 : c.cells.length ≤ 40
  cells : GCells (c.n + c.cells.length) c.n c.cells
  o1 : 0 < c.outs.length
  o6 : c.outs.length ≤ 6
  outs : ∀ i ∈ c.outs, i < c.n + c.cells.length
  lat : c.lat.length = (latches c.cells).length
  l4 : c.lat.length ≤ 4
/-- the values of the nets, ov what a net's own value is replaced by -/
def runS (ov : Nat → Bool → Bool) : List Cell → List Bool → List Bool → List Bool
  | [], vals, _ => vals
  | c :: cs, vals, st => if c.k = kLatch then runS ov cs (vals ++ [ov c.out (st.headD false)]) st.tail else runS ov cs (vals ++ [ov c.out (cval c.k (c.ins.map fun i => vals.getD i false))]) st
theorem runS_len (ov : Nat → Bool → Bool) : ∀ (cs : List Cell) (vals st : List Bool), (runS ov cs vals st).length = vals.length + cs.length
  | [], vals, st => rfl
  | c :: cs, vals, st => by
    unfold runS
    split
    · rw [runS_len ov cs, List.length_append, List.length_singleton, List.length_cons]; omega
    · rw [runS_len ov cs, List.length_append, List.length_singleton, List.length_cons]; omega
theorem getD_bv (vals : List Bool) (i : Nat) (h : i < vals.length) : (vals.map bv)[i]? = some (bv (vals.getD i false)) := by
  rw [List.getElem?_map, List.getElem?_eq_getElem h, List.getD, List.getElem?_eq_getElem h]; rfl
namespace Lib
open PySem
theorem isint_int (b : Int) : f__law_is_integer [.int b] = .ret (.bl true) := rfl
theorem e_is1 (k : Val) (bs : List Bool) (hl : bs.length ≤ 16777216) : e_cell_value_1 [.sh k, .sh (.lst (bs.map bv)), .un] = .ok (.lst (bs.map .bl)) := by
  unfold e_cell_value_1
  rw [eComp_all bv Val.bl bs rfl hl]
  intro b _
  refine ⟨_, rfl, ?_⟩
  cases b <;> rfl
theorem e_is2 (k : Val) (bs : List Bool) (hl : bs.length ≤ 16777216) : e_cell_value_2 [.sh k, .sh (.lst (bs.map bv)), .un] = .ok (.lst (bs.map .bl)) := e_is1 k bs hl
theorem cell_value_ok (k : Str) (hk : k ∈ plainKinds) (bs : List Bool) (hl : bs.length ≤ 16777216) : f_cell_value [.str k, .lst (bs.map bv)] = .ret (bv (cval k bs)) := by
  refine defn_ret rfl ?_
  have e1 := e_is1 (.str k) bs hl
  have e2 := e_is2 (.str k) bs hl
  have vi : ∀ b : Bool, vInt [.bl b] = .ok (bv b) := fun b => rfl
  simp only [plainKinds, List.mem_cons, List.not_mem_nil, or_false] at hk
  rcases hk with rfl | rfl | rfl | rfl | rfl | rfl | rfl
  all_goals unfold m_cell_value
  · have a : vKIn v_CONSTANTS (.str kNot) = .ok (.bl false) := rfl
    have b : vIn (.str kNot) v_NANDS = .ok (.bl true) := rfl
    simp! [a]
    refine Then.mk ?_; unfold m_cell_value_1; simp! [b, e1, vAll_bls]
    rfl
  · have a : vKIn v_CONSTANTS (.str kNand2) = .ok (.bl false) := rfl
    have b : vIn (.str kNand2) v_NANDS = .ok (.bl true) := rfl
    simp! [a]
    refine Then.mk ?_; unfold m_cell_value_1; simp! [b, e1, vAll_bls]
    rfl
  · have a : vKIn v_CONSTANTS (.str kNand3) = .ok (.bl false) := rfl
    have b : vIn (.str kNand3) v_NANDS = .ok (.bl true) := rfl
    simp! [a]
    refine Then.mk ?_; unfold m_cell_value_1; simp! [b, e1, vAll_bls]
    rfl
  · have a : vKIn v_CONSTANTS (.str kNor2) = .ok (.bl false) := rfl
    have b : vIn (.str kNor2) v_NANDS = .ok (.bl false) := rfl
    simp! [a]
    refine Then.mk ?_; unfold m_cell_value_1; simp! [b]
    refine Then.mk ?_; unfold m_cell_value_2; simp! [e2, vAny_bls]
    rfl
  · have a : vKIn v_CONSTANTS (.str kNor3) = .ok (.bl false) := rfl
    have b : vIn (.str kNor3) v_NANDS = .ok (.bl false) := rfl
    simp! [a]
    refine Then.mk ?_; unfold m_cell_value_1; simp! [b]
    refine Then.mk ?_; unfold m_cell_value_2; simp! [e2, vAny_bls]
    rfl
  · have a : vKIn v_CONSTANTS (.str kTie0) = .ok (.bl true) := rfl
    have b : vKGet v_CONSTANTS (.str kTie0) = .ok (.int 0) := rfl
    simp! [a, b]
    rfl
  · have a : vKIn v_CONSTANTS (.str kTie1) = .ok (.bl true) := rfl
    have b : vKGet v_CONSTANTS (.str kTie1) = .ok (.int 1) := rfl
    simp! [a, b]
    rfl
theorem sum_b2i (bs : List Bool) : ((bs.map b2i).sum == 0) = !(bs.any id) ∧ decide ((bs.map b2i).sum < (bs.length : Int)) = !(bs.all id) ∧ 0 ≤ (bs.map b2i).sum ∧ (bs.map b2i).sum ≤ (bs.length : Int) := by
  induction bs with
  | nil => exact ⟨rfl, rfl, by decide, by decide⟩
  | cons b bs ih =>
    obtain ⟨h1, h2, h3, h4⟩ := ih
    have ec : ((b :: bs).length : Int) = (bs.length : Int) + 1 := by simp
    have es : ((b :: bs).map b2i).sum = b2i b + (bs.map b2i).sum := by simp
    rw [es, ec]
    cases b with
    | true =>
      have eb : b2i true = 1 := rfl
      rw [eb]
      refine ⟨?_, ?_, by omega, by omega⟩
      · have : (1 + (bs.map b2i).sum == 0) = false := by rw [beq_eq_false_iff_ne]; omega
        rw [this]; rfl
      · have : decide (1 + (bs.map b2i).sum < (bs.length : Int) + 1) = decide ((bs.map b2i).sum < (bs.length : Int)) := by rw [decide_eq_decide]; omega
        rw [this, h2]; rfl
    | false =>
      have eb : b2i false = 0 := rfl
      rw [eb, Int.zero_add]
      refine ⟨?_, ?_, by omega, by omega⟩
      · rw [h1]; rfl
      · have : decide ((bs.map b2i).sum < (bs.length : Int) + 1) = true := by rw [decide_eq_true_eq]; omega
        rw [this]; rfl
theorem lvalue_ok (k : Str) (hk : k ∈ plainKinds) (bs : List Bool) : f__law_value [.str k, .lst (bs.map bv)] = .ret (bv (cval k bs)) := by
  refine defn_ret rfl ?_
  obtain ⟨s1, s2, _, _⟩ := sum_b2i bs
  simp only [plainKinds, List.mem_cons, List.not_mem_nil, or_false] at hk
  have tie : ∀ (k : Str) (z : Str) (x : Int), vCut (.str k) none (some 3) = .ok (.str "tie") → vIx (.str k) (.int 3) = .ok (.str z) → digitOf z = some x → bv (cval k bs) = .int x → Ok (m__law_value (startE 2 [.str k, .lst (bs.map bv)])) (fun _ => bv (cval k bs) = .non) (fun y => y = bv (cval k bs)) := by
    intro k z x h1 h2 h3 h4
    unfold m__law_value
    simp! [h1, h2, h3, h4]
  have nor : ∀ (k : Str), vCut (.str k) none (some 3) = .ok (.str "nor") → cval k bs = (!bs.any id) → Ok (m__law_value (startE 2 [.str k, .lst (bs.map bv)])) (fun _ => bv (cval k bs) = .non) (fun y => y = bv (cval k bs)) := by
    intro k h1 h4
    have q : (Str.ofString "nor" == Str.ofString "tie") = false := by decide
    have q' : (Str.ofString "nor" = Str.ofString "tie") = False := eq_false (by decide)
    unfold m__law_value
    simp! [h1, q, q']
    refine Then.mk ?_; unfold m__law_value_1; simp! [h1, bv_ints, vSum_ints, s1, h4]
    rfl
  have nand : ∀ (k : Str) (z : Str), vCut (.str k) none (some 3) = .ok (.str z) → (z == "tie") = false → (z == "nor") = false → cval k bs = (!bs.all id) → Ok (m__law_value (startE 2 [.str k, .lst (bs.map bv)])) (fun _ => bv (cval k bs) = .non) (fun y => y = bv (cval k bs)) := by
    intro k z h1 h2 h3 h4
    have h2' : (z = "tie") = False := eq_false (by simpa using h2)
    have h3' : (z = "nor") = False := eq_false (by simpa using h3)
    unfold m__law_value
    simp! [h1, h2, h2']
    refine Then.mk ?_; unfold m__law_value_1; simp! [h1, h3, h3']
    refine Then.mk ?_; unfold m__law_value_2; simp! [bv_ints, vSum_ints, h4, List.length_map, s2]
    rfl
  rcases hk with rfl | rfl | rfl | rfl | rfl | rfl | rfl
  · exact nand _ _ rfl rfl rfl rfl
  · exact nand _ _ rfl rfl rfl rfl
  · exact nand _ _ rfl rfl rfl rfl
  · exact nor _ rfl rfl
  · exact nor _ rfl rfl
  · exact tie _ _ 0 rfl rfl rfl rfl
  · exact tie _ _ 1 rfl rfl rfl rfl
theorem cell_0 (c : Cell) : vIx c.v (.int 0) = .ok (.str c.k) := rfl
theorem cell_1 (c : Cell) : vIx c.v (.int 1) = .ok (.tup (c.ins.map iv)) := rfl
theorem cell_2 (c : Cell) : vIx c.v (.int 2) = .ok (iv c.out) := rfl
theorem circ_1 (c : Circ) : vIx c.v (.int 1) = .ok (.tup (c.cells.map Cell.v)) := rfl
theorem eq_latch (k : Str) : eqR (.str k) (.str "latch") = .ok (decide (k = kLatch)) := by
  show Res.ok (k == "latch") = _
  congr 1
theorem latch_cells_ok (c : Circ) (hl : c.cells.length ≤ 16777216) : f_latch_cells [c.v] = .ret (.lst ((latches c.cells).map Cell.v)) := by
  refine defn_ret rfl ?_
  unfold m_latch_cells sRet
  have e : e_latch_cells_1 (startE 2 [c.v]) = .ok (.lst ((c.cells.filter fun c => decide (c.k = kLatch)).map Cell.v)) := by
    unfold e_latch_cells_1
    refine eComp_ok Cell.v (fun c => decide (c.k = kLatch)) Cell.v c.cells rfl hl fun x _ => ⟨_, rfl, ?_, fun _ => rfl⟩
    have h : vEq (.str x.k) (.str "latch") = .ok (.bl (decide (x.k = kLatch))) := by unfold vEq; rw [eq_latch]; rfl
    unfold bVal e2
    show ((vIx x.v (.int 0)).bind fun x => (Res.ok (Val.str "latch")).bind fun y => vEq x y).bind _ = _
    rw [cell_0]
    simp only [Res.bind_ok, h]
  rw [e]
  simp! []
  rfl
/-- what a dict of stuck nets says -/
def Stk (kvs : List (Key × Val)) (ov : Nat → Bool → Bool) : Prop := ∀ (n : Nat) (b : Bool), getD kvs (iv n) (bv b) = .ok (bv (ov n b))
theorem stk_nil : Stk [] fun _ b => b := fun n b => rfl
def inVals (ov : Nat → Bool → Bool) (ins : List Bool) : List Bool := ins.zipIdx.map fun p => ov p.2 p.1
theorem inVals_len (ov : Nat → Bool → Bool) (ins : List Bool) : (inVals ov ins).length = ins.length := by unfold inVals; rw [List.length_map, List.length_zipIdx]
def SInv (c : Circ) (kvs : List (Key × Val)) (ov : Nat → Bool → Bool) (ins st : List Bool) (total : Nat) (cs : List Cell) (env : Env) : Prop := ∃ (m : Nat) (vals left : List Bool) (s6 s7 s8 s9 : Slot), env = [.sh c.v, .sh (.lst (ins.map bv)), .sh (.lst (st.map bv)), .sh (.dct kvs), .oL (vals.map bv), .oL (left.map bv), s6, s7, s8, s9, .un, .un] ∧
    GCells total m cs ∧ vals.length = m ∧ left.length = (latches cs).length ∧ runS ov cs vals left = runS ov c.cells (inVals ov ins) st ∧ m + cs.length ≤ 16777215
theorem settled_ok (c : Circ) (kvs : List (Key × Val)) (ov : Nat → Bool → Bool) (hk : Stk kvs ov) (ins st : List Bool) {total : Nat} (hc : GCells total c.n c.cells) (hn : ins.length = c.n) (hs : st.length = (latches c.cells).length) (hl : c.n + c.cells.length ≤ 16777215) :
    f_settled_values [c.v, .lst (ins.map bv), .lst (st.map bv), .dct kvs] = .ret (.lst ((runS ov c.cells (inVals ov ins) st).map bv)) := by
  refine defn_ret rfl ?_
  unfold m_settled_values
  have e1 : e_settled_values_1 (hide (startE 12 [c.v, .lst (ins.map bv), .lst (st.map bv), .dct kvs])) = .ok (.lst ((inVals ov ins).map bv)) := by
    unfold e_settled_values_1
    have hi : (iEnumV (eVar 1)) (hide (startE 12 [c.v, .lst (ins.map bv), .lst (st.map bv), .dct kvs])) = .ok (ins.zipIdx.map fun p => .tup [.int (p.2 : Nat), bv p.1]) := by
      rw [← enumL_map bv ins 0]; rfl
    rw [eComp_all (fun p : Bool × Nat => .tup [.int (p.2 : Nat), bv p.1]) (fun p => bv (ov p.2 p.1)) ins.zipIdx hi (by rw [List.length_zipIdx]; omega)]
    · unfold inVals; rw [List.map_map]; rfl
    · intro p _
      refine ⟨_, rfl, ?_⟩
      exact hk p.2 p.1
  simp only [Ok_seq]
  have o1 : sOwn 4 e_settled_values_1 (startE 12 [c.v, .lst (ins.map bv), .lst (st.map bv), .dct kvs]) = .next [.sh c.v, .sh (.lst (ins.map bv)), .sh (.lst (st.map bv)), .sh (.dct kvs), .oL ((inVals ov ins).map bv), .un, .un, .un, .un, .un, .un, .un] := by
    unfold sOwn; rw [e1]; rfl
  rw [o1, Ok_next]
  refine Then.mk ?_; unfold m_settled_values_1; simp! []
  refine Then.mk ?_
  unfold m_settled_values_2
  simp only [Ok_seq]
  unfold m_settled_values_c_F
  refine Ok_for (xs := c.cells.map Cell.v) (by simp! [circ_1]) ?_
  refine forL_ind Cell.v (SInv c kvs ov ins st total) ?_ ?_ c.cells _ ⟨c.n, inVals ov ins, st, _, _, _, _, rfl, hc, by rw [inVals_len, hn], hs, rfl, hl⟩
  · rintro x cs env ⟨m, vals, left, s6, s7, s8, s9, rfl, hg, hv, hle, hr, hb⟩
    refine ⟨_, rfl, ?_⟩
    cases hg with
    | cons g gs =>
      have fin : ∀ {R : Val → Prop} {B : Env → Prop} (b : Bool) (left' : List Bool), left'.length = (latches cs).length → runS ov cs (vals ++ [ov x.out b]) left' = runS ov c.cells (inVals ov ins) st →
          Then m_settled_values_c_1 (SInv c kvs ov ins st total cs) R B (SInv c kvs ov ins st total cs)
            [.sh c.v, .sh (.lst (ins.map bv)), .sh (.lst (st.map bv)), .sh (.dct kvs), .oL (vals.map bv), .oL (left'.map bv), .sh (.str x.k), .sh (.tup (x.ins.map iv)), .sh (iv x.out), .sh (bv b), .un, .un] := by
        intro R B b left' h1 h2
        refine Then.mk ?_
        unfold m_settled_values_c_1
        rw [List.length_cons] at hb
        have hg2 : (eGet2 (eVar 3) (eVar 8) (eVar 9)) (hide [.sh c.v, .sh (.lst (ins.map bv)), .sh (.lst (st.map bv)), .sh (.dct kvs), .oL (vals.map bv), .oL (left'.map bv), .sh (.str x.k), .sh (.tup (x.ins.map iv)), .sh (iv x.out), .sh (bv b), .un, .un]) = .ok (bv (ov x.out b)) := hk x.out b
        unfold sAppend
        show Ok (((eGet2 (eVar 3) (eVar 8) (eVar 9)) (hide [.sh c.v, .sh (.lst (ins.map bv)), .sh (.lst (st.map bv)), .sh (.dct kvs), .oL (vals.map bv), .oL (left'.map bv), .sh (.str x.k), .sh (.tup (x.ins.map iv)), .sh (iv x.out), .sh (bv b), .un, .un])).flow _ _) _ _ _ _
        rw [hg2, Res.flow_ok, if_pos (by rw [List.length_map]; omega), Ok_next]
        refine ⟨m + 1, vals ++ [ov x.out b], left', .sh (.str x.k), .sh (.tup (x.ins.map iv)), .sh (iv x.out), .sh (bv b), ?_, gs, by rw [List.length_append, hv]; rfl, h1, h2, by omega⟩
        rw [List.map_append]; rfl
      unfold m_settled_values_c_L
      by_cases hx : x.k = kLatch
      · have hlx : latches (x :: cs) = x :: latches cs := by unfold latches; rw [List.filter_cons, if_pos (by simp [hx])]
        rw [hlx, List.length_cons] at hle
        obtain ⟨b, left', rfl⟩ : ∃ b left', left = b :: left' := by cases left with | nil => simp at hle | cons b l => exact ⟨b, l, rfl⟩
        have s0 : smallI 0 = true := smallI_nat (n := 0) (by omega)
        have i0 : ixNat (left'.length + 1) 0 = some 0 := ixNat_0 _ (by omega)
        simp! [eq_latch, hx, sPopAtTo, popAt, s0, i0, List.length_map, List.eraseIdx]
        rw [hx] at fin
        refine ⟨fun _ => ⟨by decide, fin b left' (by simpa using hle) ?_⟩, fun h => absurd h (by decide)⟩
        rw [← hr]
        conv => rhs; unfold runS
        rw [if_pos hx]; rfl
      · have hlx : latches (x :: cs) = latches cs := by unfold latches; rw [List.filter_cons, if_neg (by simp [hx])]
        rw [hlx] at hle
        have hkx : x.k ∈ plainKinds := by rcases g.kind with h | h; exact absurd h hx; exact h
        have ar3 : x.ins.length ≤ 16777216 := by rw [g.ar]; unfold arity; split; omega; split; omega; split <;> omega
        have e2 : e_settled_values_2 [.sh c.v, .sh (.lst (ins.map bv)), .sh (.lst (st.map bv)), .sh (.dct kvs), .oL (vals.map bv), .oL (left.map bv), .sh (.str x.k), .sh (.tup (x.ins.map iv)), .sh (iv x.out), s9, .un, .un] = .ok (.lst ((x.ins.map fun i => vals.getD i false).map bv)) := by
          unfold e_settled_values_2
          rw [eComp_all iv (fun i => bv (vals.getD i false)) x.ins rfl ar3]
          · rw [List.map_map]; rfl
          · intro i hi
            refine ⟨_, rfl, ?_⟩
            have := getD_bv vals i (by rw [hv]; exact g.lt hx i hi)
            show Res.ofOpt (atI (vals.map bv) (i : Int)) = _
            rw [atI_nat, this]; rfl
        have cv := cell_value_ok x.k hkx (x.ins.map fun i => vals.getD i false) (by rw [List.length_map]; exact ar3)
        have hx' : decide (x.k = kLatch) = false := decide_eq_false hx
        have nb : ∀ b : Bool, (bv b).noLst = true := fun _ => rfl
        simp! [eq_latch, hx', e2, cv, nb]
        refine ⟨fun h => absurd h hx, fun _ => fin _ left hle ?_⟩
        rw [← hr]
        conv => rhs; unfold runS
        rw [if_neg hx]
  · rintro env ⟨m, vals, left, s6, s7, s8, s9, rfl, hg, hv, hle, hr, hb⟩
    have hr : vals = runS ov c.cells (inVals ov ins) st := hr
    refine Then.mk ?_; unfold m_settled_values_3; simp! []
    refine Then.mk ?_; unfold m_settled_values_4; simp! []
    rw [hr]
theorem GCells.tot {total : Nat} : ∀ {m : Nat} {cs : List Cell}, GCells total m cs → ∀ c ∈ cs, (∀ i ∈ c.ins, i < total) ∧ c.ins.length = arity c.k
  | _, _, .nil _, c, h => by cases h
  | _, _, .cons g gs, c, h => by
    rcases List.mem_cons.mp h with rfl | h
    · exact ⟨g.tot, g.ar⟩
    · exact GCells.tot gs c h
theorem lat_in {total m : Nat} {cs : List Cell} (g : GCells total m cs) (c : Cell) (h : c ∈ latches cs) : ∃ i, c.ins = [i] ∧ i < total := by
  unfold latches at h
  rw [List.mem_filter] at h
  obtain ⟨h1, h2⟩ := GCells.tot g c h.1
  have hk : c.k = kLatch := by simpa using h.2
  rw [hk] at h2
  have h2 : c.ins.length = 1 := h2
  match hi : c.ins, h2 with
  | [i], _ => exact ⟨i, rfl, h1 i (by rw [hi]; exact List.mem_cons_self)⟩
end Lib
end Vm
end
noncomputable section
namespace Vm
local macro_rules | `(tactic| simp! [$ts,*]) => `(tactic| simp only [Ok_seq, OkM_seq, OkM_next, OkM_ret, OkM_exc, OkM_brk, OkM_cont, OkM_bind, OkM_cond, OkM_ite, RS.bind_ok, RS.bind_exc, RS.bind_bad, Res.flow_exc, Flow.bind_exc, RS.flow_ok, RS.flow_exc, RS.flow_bad, Res.rs_ok, Res.rs_exc, Res.rs_bad, RSflow_ite, RSbind_ite, RSflow_cond, RSbind_cond, rs_ite, rs_cond, mH, mN, mNil, mCons, mLst, mTup, m1, m2, mIf, mAnd, mOr, mNot, mFn, mArgs, bmP, bmV, bmT, bmAnd, bmOr, bmNot, sSetM, sDropM, sRetM, sIfM, sRaise, sSet, sSetN, sOwn, sOwnN, sAppend, sAppendN, sFreeze, sForget, sIf, sRet, sRetN, sNext, sPut, sDrop, sAug, sOn, sItem, sItemN, itemPut, sBreak, sCont, hide, Slot.hide, eVar, eC, e1, e2, eArgs, eAnd, eOr, eNot, eIf, eChain, eCall, eCut, partOf, aNil, aCons, asBl, bVal, bTruth, bAnd, bOr, bNot, bYes, truth, vAdd_int, vAdd_lst, vAdd_tup, vSub, vMul_int, vDiv_int, vMod_int, vPow18, vPow12, vPow11, vPow9, vPow6, vNeg, vLt, vLe, vGt, vGe, vEq, vNe, eqR_int, eqR_bl, eqR_str, vIsi, Val.isOb, vTup, vLst, vLen_lst, vLen_tup, vInt, vIs, vIsNot, vIx_lst, vIx_tup, vIx_dct, vListOf, vTupOf, vIpAdd, vMax2, vMax3, vMin2, Val.ty, Ty.sub, noLst_int, noLst_bl, noLst_str, noLst_non, noLst_tup, noLsts_nil, noLsts_cons, noLsts_ints, pName, pTup, pTupL, putAll, iSeq, itemsOf, iRange1, iRange2, DR.res, Res.ofOpt_some, Res.ofOpt_none, Res.bind_ok, Res.bind_exc, Res.bind_bad, Res.nx_ok, Res.flow_ok, Res.flow_bad, Flow.bind_next, Flow.bind_ret, Flow.bind_brk, Flow.bind_cont, Flow.bind_bad, Ok_next, Ok_ret, Ok_brk, Ok_cont, Ok_bind, Ok_cond, Ok_ite, Ok_ofOpt, flow_ite, bind_ite, nx_ite', flow_cond, bind_cond, cond_andV, cond_orV, cond_and, cond_or, atI_nat, atI_0, atI_1, atI_lit, startE, List.map_cons, List.map_nil, List.length_cons, List.length_nil, List.getElem?_cons_zero, List.getElem?_cons_succ, List.set_cons_zero, List.set_cons_succ, List.set_nil, List.replicate, List.append_nil, List.cons_append, List.nil_append, Nat.sub_self, Nat.reduceAdd, Nat.reduceSub, Nat.reduceLT, Nat.reduceLeDiff, Nat.reduceEqDiff, Int.reduceLE, Int.reduceLT, Int.reduceToNat, Int.reducePow, Int.reduceMul, Int.reduceAdd, Int.reduceSub, Int.reduceNeg, Int.cast_ofNat_Int, if_true, if_false, ↓reduceIte, reduceCtorEq, beq_self_eq_true, and_true, true_and, decide_eq_true_eq, decide_eq_false_iff_not, Bool.not_eq_true', Bool.not_eq_false', Bool.and_true, Bool.true_and, Bool.or_true, Bool.and_false, Bool.or_false, Bool.false_or, Bool.true_or, Bool.false_and, Bool.not_true, Bool.not_false, beq_iff_eq, forall_const, false_implies, Option.map_some, decide_true, decide_false, cond_true, cond_false, $ts,*])
namespace Lib
open PySem
theorem parts_k (c : Int) (sizes : List Int) (hs : ∀ n ∈ sizes, 0 < n ∧ n < 18446744073709551616) (hl : sizes.length ≤ 100) : ∃ ps : List Int, f__law_parts [.int c, .lst (sizes.map .int)] = .ret (.lst (ps.map .int)) ∧ Parts ps sizes := by
  obtain ⟨y, h, ps, rfl, hp⟩ := parts_ok c sizes hs hl
  exact ⟨ps, h, hp⟩
theorem cell_k (ns : List Int) (k : Nat) : ∃ c, f__law_cell [.lst (ns.map .int), .int k] = .ret (.int c) := cell_ok ns k
theorem GCells.snoc {total : Nat} : ∀ {m : Nat} {cs : List Cell} {c : Cell}, GCells total m cs → GCell total (m + cs.length) c → GCells total m (cs ++ [c])
  | m, [], c, .nil _, g => .cons g (.nil _)
  | m, x :: cs, c, .cons h hs, g => .cons h (GCells.snoc hs (by rw [List.length_cons] at g; rw [show m + 1 + cs.length = m + (cs.length + 1) by omega]; exact g))
theorem iv_get (xs : List Nat) (i : Nat) (h : i < xs.length) : (xs.map iv)[i]? = some (iv xs[i]) := by
  rw [List.getElem?_map, List.getElem?_eq_getElem h]; rfl
theorem eraseIdx_map {α β : Type} (f : α → β) : ∀ (xs : List α) (i : Nat), (xs.map f).eraseIdx i = (xs.eraseIdx i).map f
  | [], _ => rfl
  | x :: xs, 0 => rfl
  | x :: xs, i + 1 => by
    show f x :: (xs.map f).eraseIdx i = f x :: (xs.eraseIdx i).map f
    rw [eraseIdx_map f xs i]
theorem erase_perm {α : Type} : ∀ (l : List α) (i : Nat) (h : i < l.length), (l[i] :: l.eraseIdx i).Perm l
  | x :: l, 0, h => List.Perm.refl _
  | x :: l, i + 1, h => by
    have h' : i < l.length := by simpa using h
    show (l[i] :: x :: l.eraseIdx i).Perm (x :: l)
    exact (List.Perm.swap x _ _).trans ((erase_perm l i (by simpa using h)).cons x)
theorem drawn_ok (ps : List Int) (count nets : Nat) (h : count ≤ nets) (hp : count + 1 ≤ ps.length) (hb : nets ≤ 16777215) : ∃ ds : List Nat, f__law_drawn [.lst (ps.map .int), .int count, .int nets] = .ret (.tup (ds.map iv)) ∧ ds.length = count ∧ ds.Nodup ∧ ∀ i ∈ ds, i < nets := by
  suffices hh : ∃ y, f__law_drawn [.lst (ps.map .int), .int count, .int nets] = .ret y ∧ ∃ ds : List Nat, y = .tup (ds.map iv) ∧ ds.length = count ∧ ds.Nodup ∧ ∀ i ∈ ds, i < nets by
    obtain ⟨y, h, ds, rfl, h2⟩ := hh; exact ⟨ds, h, h2⟩
  refine defn_some rfl ?_
  unfold m__law_drawn
  have r0 : rangeV .lst 0 (nets : Int) = .ok (.lst ((List.range nets).map iv)) := by
    unfold rangeV
    rw [if_pos]
    · rw [Int.sub_zero, Int.toNat_natCast]
      unfold rangeL
      have : (fun (i : Nat) => Val.int (0 + (i : Int))) = iv := by funext i; rw [Int.zero_add]; rfl
      rw [this]
    · have a := smallI_nat (n := 0) (by omega)
      have b := smallI_nat (n := nets) (by omega)
      have a' : smallI 0 = true := a
      rw [a', b]
      exact big_iff.mpr (by omega)
  simp! [eRange1, r0]
  refine Then.mk ?_; unfold m__law_drawn_1; simp! []
  refine Then.mk ?_
  unfold m__law_drawn_2
  simp only [Ok_seq]
  unfold m__law_drawn_c_F
  refine Ok_for (xs := rangeL 0 count) (range1_ok (by simp! []) (by omega)) ?_
  refine forL_ok _ (fun i env => ∃ (left dr : List Nat) (s5 : Slot), env = [.sh (.lst (ps.map .int)), .sh (.int count), .sh (.int nets), .oL (left.map iv), .oL (dr.map iv), s5] ∧ left.length + i = nets ∧ dr.length = i ∧ (dr ++ left).Nodup ∧ ∀ x ∈ dr ++ left, x < nets) _
    ⟨List.range nets, [], _, rfl, by simp, rfl, by simpa using List.nodup_range, by simp⟩ ?_ ?_
  · rintro i hi env ⟨left, dr, s5, rfl, h1, h2, h3, h4⟩
    rw [range_len] at hi
    rw [range_get, Int.zero_add]
    refine ⟨_, rfl, ?_⟩
    have hlp : 0 < left.length := by omega
    have hpi : (ps.map Val.int)[i + 1]? = some (.int (ps[i + 1]'(by omega))) := map_get? _ _ _ (by omega)
    have hix : (1 : Int) + (i : Int) = ((i + 1 : Nat) : Int) := by omega
    have m0 := Int.emod_nonneg (ps[i + 1]'(by omega)) (show (left.length : Int) ≠ 0 by omega)
    have m1 := Int.emod_lt_of_pos (ps[i + 1]'(by omega)) (show (0 : Int) < left.length by omega)
    obtain ⟨m, hm⟩ : ∃ m : Nat, (ps[i + 1]'(by omega)) % (left.length : Int) = m := ⟨_, (Int.toNat_of_nonneg m0).symm⟩
    rw [hm] at m1
    have m1 : m < left.length := by omega
    unfold m__law_drawn_c_L sAppPop
    have hb2 : (e2 vMod (eArgs vInt (aCons (e2 vIx (eVar 0) (e2 vAdd (eC (.int 1)) (eVar 5))) aNil)) (eArgs vLen (aCons (eVar 3) aNil))) [.sh (.lst (ps.map .int)), .sh (.int count), .sh (.int nets), .oL (left.map iv), .oL (dr.map iv), .sh (.int (i : Nat))] = .ok (.int m) := by
      simp! [hix, hpi, List.length_map, hm]
      rw [if_pos (by omega)]
    show Ok (((e2 vMod (eArgs vInt (aCons (e2 vIx (eVar 0) (e2 vAdd (eC (.int 1)) (eVar 5))) aNil)) (eArgs vLen (aCons (eVar 3) aNil))) [.sh (.lst (ps.map .int)), .sh (.int count), .sh (.int nets), .oL (left.map iv), .oL (dr.map iv), .sh (.int (i : Nat))]).flow _ _) _ _ _ _
    rw [hb2]
    simp only [Res.flow_ok]
    unfold popAt
    have sm := smallI_nat (n := m) (by omega)
    have ix : ixNat (left.map iv).length (m : Int) = some m := ixNat_nat _ _ (by rw [List.length_map]; exact m1)
    have gm := iv_get left m m1
    show Ok (if smallI (m : Int) = true then (match ixNat (left.map iv).length (m : Int) with
      | some m => (match (left.map iv)[m]? with
        | some x => _
        | none => .bad)
      | none => .bad) else .bad) _ _ _ _
    rw [if_pos sm, ix]
    show Ok (match (left.map iv)[m]? with
        | some x => _
        | none => .bad) _ _ _ _
    rw [gm]
    show Ok (if (4 : Nat) ≠ 3 ∧ (dr.map iv).length < 16777216 then _ else _) _ _ _ _
    rw [if_pos ⟨by decide, by rw [List.length_map]; omega⟩, Ok_next]
    have pm : (left[m] :: left.eraseIdx m).Perm left := erase_perm left m m1
    have pp : (dr ++ [left[m]] ++ left.eraseIdx m).Perm (dr ++ left) := by
      rw [List.append_assoc]
      exact pm.append_left dr
    refine ⟨left.eraseIdx m, dr ++ [left[m]], .sh (.int (i : Nat)), ?_, ?_, by rw [List.length_append, h2]; rfl, pp.nodup_iff.mpr h3, fun x hx => h4 x (pp.mem_iff.mp hx)⟩
    · rw [eraseIdx_map, List.map_append]; rfl
    · rw [List.length_eraseIdx, if_pos m1]; omega
  · rintro env ⟨left, dr, s5, rfl, h1, h2, h3, h4⟩
    rw [range_len] at h2
    refine Then.mk ?_; unfold m__law_drawn_3; simp! []
    refine Then.mk ?_; unfold m__law_drawn_4; simp! []
    refine ⟨dr, rfl, h2, (List.nodup_append.mp h3).1, fun x hx => h4 x (List.mem_append_left _ hx)⟩
def allKinds : List Str := [kLatch, kNot, kNand2, kNand3, kNor2, kNor3, kTie0, kTie1]
theorem kinds16 (p : Int) (h : 0 ≤ p ∧ p < 16) : ∃ k ∈ allKinds, atI [Val.str "not", .str "not", .str "nand2", .str "nand2", .str "nand2", .str "nand3", .str "nand3", .str "nor2", .str "nor2", .str "nor2", .str "nor3", .str "nor3", .str "latch", .str "latch", .str "tie0", .str "tie1"] p = some (.str k) := by
  have : p = 0 ∨ p = 1 ∨ p = 2 ∨ p = 3 ∨ p = 4 ∨ p = 5 ∨ p = 6 ∨ p = 7 ∨ p = 8 ∨ p = 9 ∨ p = 10 ∨ p = 11 ∨ p = 12 ∨ p = 13 ∨ p = 14 ∨ p = 15 := by omega
  rcases this with rfl | rfl | rfl | rfl | rfl | rfl | rfl | rfl | rfl | rfl | rfl | rfl | rfl | rfl | rfl | rfl
  · exact ⟨kNot, by decide, rfl⟩
  · exact ⟨kNot, by decide, rfl⟩
  · exact ⟨kNand2, by decide, rfl⟩
  · exact ⟨kNand2, by decide, rfl⟩
  · exact ⟨kNand2, by decide, rfl⟩
  · exact ⟨kNand3, by decide, rfl⟩
  · exact ⟨kNand3, by decide, rfl⟩
  · exact ⟨kNor2, by decide, rfl⟩
  · exact ⟨kNor2, by decide, rfl⟩
  · exact ⟨kNor2, by decide, rfl⟩
  · exact ⟨kNor3, by decide, rfl⟩
  · exact ⟨kNor3, by decide, rfl⟩
  · exact ⟨kLatch, by decide, rfl⟩
  · exact ⟨kLatch, by decide, rfl⟩
  · exact ⟨kTie0, by decide, rfl⟩
  · exact ⟨kTie1, by decide, rfl⟩
theorem latches_snoc (cs : List Cell) (c : Cell) : (latches (cs ++ [c])).length = (latches cs).length + if c.k = kLatch then 1 else 0 := by
  unfold latches
  rw [List.filter_append, List.length_append]
  congr 1
  by_cases h : c.k = kLatch
  · rw [if_pos h, List.filter_cons, if_pos (by simp [h])]; rfl
  · rw [if_neg h, List.filter_cons, if_neg (by simp [h])]; rfl
theorem arity3 (k : Str) : arity k ≤ 3 := by unfold arity; split; omega; split; omega; split <;> omega
end Lib
end Vm
end
noncomputable section
namespace Vm
local macro_rules | `(tactic| simp! [$ts,*]) => `(tactic| simp only [Ok_seq, OkM_seq, OkM_next, OkM_ret, OkM_exc, OkM_brk, OkM_cont, OkM_bind, OkM_cond, OkM_ite, RS.bind_ok, RS.bind_exc, RS.bind_bad, Res.flow_exc, Flow.bind_exc, RS.flow_ok, RS.flow_exc, RS.flow_bad, Res.rs_ok, Res.rs_exc, Res.rs_bad, RSflow_ite, RSbind_ite, RSflow_cond, RSbind_cond, rs_ite, rs_cond, mH, mN, mNil, mCons, mLst, mTup, m1, m2, mIf, mAnd, mOr, mNot, mFn, mArgs, bmP, bmV, bmT, bmAnd, bmOr, bmNot, sSetM, sDropM, sRetM, sIfM, sRaise, sSet, sSetN, sOwn, sOwnN, sAppend, sAppendN, sFreeze, sForget, sIf, sRet, sRetN, sNext, sPut, sDrop, sAug, sOn, sItem, sItemN, itemPut, sBreak, sCont, hide, Slot.hide, eVar, eC, e1, e2, eArgs, eAnd, eOr, eNot, eIf, eChain, eCall, eCut, partOf, aNil, aCons, asBl, bVal, bTruth, bAnd, bOr, bNot, bYes, truth, vAdd_int, vAdd_lst, vAdd_tup, vSub, vMul_int, vDiv_int, vMod_int, vPow18, vPow12, vPow11, vPow9, vPow6, vNeg, vLt, vLe, vGt, vGe, vEq, vNe, eqR_int, eqR_bl, eqR_str, vIsi, Val.isOb, vTup, vLst, vLen_lst, vLen_tup, vInt, vIs, vIsNot, vIx_lst, vIx_tup, vIx_dct, vListOf, vTupOf, vIpAdd, vMax2, vMax3, vMin2, Val.ty, Ty.sub, noLst_int, noLst_bl, noLst_str, noLst_non, noLst_tup, noLsts_nil, noLsts_cons, noLsts_ints, pName, pTup, pTupL, putAll, iSeq, itemsOf, iRange1, iRange2, DR.res, Res.ofOpt_some, Res.ofOpt_none, Res.bind_ok, Res.bind_exc, Res.bind_bad, Res.nx_ok, Res.flow_ok, Res.flow_bad, Flow.bind_next, Flow.bind_ret, Flow.bind_brk, Flow.bind_cont, Flow.bind_bad, Ok_next, Ok_ret, Ok_brk, Ok_cont, Ok_bind, Ok_cond, Ok_ite, Ok_ofOpt, flow_ite, bind_ite, nx_ite', flow_cond, bind_cond, cond_andV, cond_orV, cond_and, cond_or, atI_nat, atI_0, atI_1, atI_lit, startE, List.map_cons, List.map_nil, List.length_cons, List.length_nil, List.getElem?_cons_zero, List.getElem?_cons_succ, List.set_cons_zero, List.set_cons_succ, List.set_nil, List.replicate, List.append_nil, List.cons_append, List.nil_append, Nat.sub_self, Nat.reduceAdd, Nat.reduceSub, Nat.reduceLT, Nat.reduceLeDiff, Nat.reduceEqDiff, Int.reduceLE, Int.reduceLT, Int.reduceToNat, Int.reducePow, Int.reduceMul, Int.reduceAdd, Int.reduceSub, Int.reduceNeg, Int.cast_ofNat_Int, if_true, if_false, ↓reduceIte, reduceCtorEq, beq_self_eq_true, and_true, true_and, decide_eq_true_eq, decide_eq_false_iff_not, Bool.not_eq_true', Bool.not_eq_false', Bool.and_true, Bool.true_and, Bool.or_true, Bool.and_false, Bool.or_false, Bool.false_or, Bool.true_or, Bool.false_and, Bool.not_true, Bool.not_false, beq_iff_eq, forall_const, false_implies, Option.map_some, decide_true, decide_false, cond_true, cond_false, $ts,*])
theorem cut_take {α : Type} (xs : List α) (k : Nat) (h : k ≤ xs.length) : cut xs none (some (k : Int)) = xs.take k := by
  unfold cut cutAt
  simp only [Int.toNat_natCast, show ¬ ((k : Int) < 0) by omega, if_false]
  rw [Nat.min_eq_left h]; simp
theorem cut_drop {α : Type} (xs : List α) (k : Nat) : cut xs (some (k : Int)) none = xs.drop k := by
  unfold cut cutAt
  simp only [Int.toNat_natCast, show ¬ ((k : Int) < 0) by omega, if_false]
  by_cases h : k ≤ xs.length
  · rw [Nat.min_eq_left h]
    exact List.take_of_length_le (by rw [List.length_drop]; omega)
  · rw [Nat.min_eq_right (by omega), List.drop_length, List.drop_eq_nil_of_le (by omega)]; simp
namespace Lib
open PySem
theorem bare_ok (ns : List Int) (c : Circ) (hg : c.Good) : ∃ c' : Circ, f__law_bare [.lst (ns.map .int), c.v] = .ret c'.v ∧ c'.Good ∧ (c' = c ∨ (0 < c.n ∧ c'.n = c.n ∧ c'.cells = [])) := by
  suffices hh : ∃ y, f__law_bare [.lst (ns.map .int), c.v] = .ret y ∧ ∃ c' : Circ, y = c'.v ∧ c'.Good ∧ (c' = c ∨ (0 < c.n ∧ c'.n = c.n ∧ c'.cells = [])) by
    obtain ⟨y, h, c', rfl, h2⟩ := hh; exact ⟨c', h, h2⟩
  refine defn_some rfl ?_
  obtain ⟨z, ez⟩ := cell_k ns 2
  have ez : f__law_cell [.lst (ns.map .int), .int 2] = .ret (.int z) := ez
  unfold m__law_bare
  have k0 : vIx c.v (.int 0) = .ok (.int c.n) := rfl
  simp! [k0, ez]
  refine ⟨fun _ => ⟨c, rfl, hg, .inl rfl⟩, fun h => ?_⟩
  have hn : 0 < c.n := by
    rw [Bool.or_eq_false_iff, beq_eq_false_iff_ne] at h
    have := h.1
    omega
  refine Then.mk ?_
  unfold m__law_bare_1
  have e1 : e__law_bare_1 [.sh (.lst (ns.map .int)), .sh c.v, .un] = .ok (.lst ((c.outs.map fun i => i % c.n).map iv)) := by
    unfold e__law_bare_1
    rw [eComp_all iv (fun i => iv (i % c.n)) c.outs rfl (by have := hg.o6; omega)]
    · rw [List.map_map]; rfl
    · intro i _
      refine ⟨_, rfl, ?_⟩
      have c1 : (i : Int) % (c.n : Int) = ((i % c.n : Nat) : Int) := by push_cast; rfl
      simp! [wipeE, iv, k0, c1]
      rw [if_pos (by omega)]
  simp! [k0, e1]
  refine ⟨⟨c.n, [], c.outs.map fun i => i % c.n, []⟩, rfl, ⟨hg.n6, Nat.zero_le _, .nil _, by show 0 < (c.outs.map _).length; rw [List.length_map]; exact hg.o1, by show (c.outs.map _).length ≤ 6; rw [List.length_map]; exact hg.o6, ?_, rfl, Nat.zero_le _⟩, .inr ⟨hn, rfl, rfl⟩⟩
  intro x hx
  rw [List.mem_map] at hx
  obtain ⟨i, _, rfl⟩ := hx
  exact Nat.mod_lt _ hn
end Lib
end Vm
end
noncomputable section
namespace Vm
namespace Lib
open PySem
def e__law_cases_1 : EX := (eComp (iSeq (e2 vIx (eVar 0) (eC (.int 1)))) [3] (pName 3) (bVal (e2 vEq (e2 vIx (eVar 3) (eC (.int 0))) (eC (.str "latch")))) (eC (.int 1)))
def m__law_cases_b_L : ST := (sSet 1 (e2 vMul (eVar 1) (eC (.int 2))))
def m__law_cases_b_F : ST := (sFor (iRange1 (e2 vAdd (e2 vIx (eVar 0) (eC (.int 0))) (eArgs vLen (aCons e__law_cases_1 aNil)))) (pName 2) m__law_cases_b_L)
def m__law_cases_2 : ST := (sRet (eVar 1))
def m__law_cases_1 : ST := (sSeq m__law_cases_b_F
    m__law_cases_2)
def m__law_cases : ST := (sSeq (sSet 1 (eC (.int 1)))
    m__law_cases_1)
def f__law_cases : Fn := defn 1 4 m__law_cases
def m_check_flaw : ST := (sIf (bOr (bNot (bVal (eChain vLe vLt (eC (.int 0)) (e2 vIx (eVar 1) (eC (.int 0))) (e2 vAdd (e2 vIx (eVar 0) (eC (.int 0))) (eArgs vLen (aCons (e2 vIx (eVar 0) (eC (.int 1))) aNil)))))) (bVal (e2 vNotIn (e2 vIx (eVar 1) (eC (.int 1))) (eArgs vTup (aCons (eC (.int 0)) (aCons (eC (.int 1)) aNil)))))) (sRaise ⟨"NoSuchThing", []⟩) sNext)
def f_check_flaw : Fn := defn 2 2 m_check_flaw
def m_bit_count : ST := (sRet (e2 vAdd (e2 vIx (eVar 0) (eC (.int 0))) (eArgs vLen (aCons (eCall f_latch_cells (aCons (eVar 0) aNil)) aNil))))
def f_bit_count : Fn := defn 1 1 m_bit_count
def m_case_count : ST := (sRet (e2 vShl (eC (.int 1)) (eCall f_bit_count (aCons (eVar 0) aNil))))
def f_case_count : Fn := defn 1 1 m_case_count
def e_case_bits_1 : EX := (eComp (iRange1 (eCall f_bit_count (aCons (eVar 0) aNil))) [3] (pName 3) bYes (e2 vAnd1 (e2 vShr (eVar 1) (eVar 3)) (eC (.int 1))))
def m_case_bits_2 : ST := (sRet (eArgs vTup (aCons (eCut (eVar 2) none (some (e2 vIx (eVar 0) (eC (.int 0))))) (aCons (eCut (eVar 2) (some (e2 vIx (eVar 0) (eC (.int 0)))) none) aNil))))
def m_case_bits_1 : ST := (sSeq (sSet 2 e_case_bits_1)
    m_case_bits_2)
def m_case_bits : ST := (sSeq (sIf (bNot (bVal (eChain vLe vLt (eC (.int 0)) (eVar 1) (eCall f_case_count (aCons (eVar 0) aNil))))) (sRaise ⟨"NoSuchThing", []⟩) sNext)
    m_case_bits_1)
def f_case_bits : Fn := defn 2 4 m_case_bits
def e_answers_1 : EX := (eComp (iSeq (eCall f_latch_cells (aCons (eVar 0) aNil))) [8] (pName 8) bYes (e2 vIx (e2 vIx (eVar 8) (eC (.int 1))) (eC (.int 0))))
def e_answers_2 : EX := (eComp (iSeq (eVar 4)) [7] (pName 7) bYes (e2 vIx (eVar 3) (eVar 7)))
def m_answers_3 : ST := (sRet e_answers_2)
def m_answers_2 : ST := (sSeq (sSet 4 (e2 vAdd (eArgs vListOf (aCons (e2 vIx (eVar 0) (eC (.int 2))) aNil)) e_answers_1))
    m_answers_3)
def m_answers_1 : ST := (sSeq (sSet 3 (eCall f_settled_values (aCons (eVar 0) (aCons (eVar 5) (aCons (eVar 6) (aCons (eVar 2) aNil))))))
    m_answers_2)
def m_answers : ST := (sSeq (sPut (pTup [5, 6]) (eCall f_case_bits (aCons (eVar 0) (aCons (eVar 1) aNil))))
    m_answers_1)
def f_answers : Fn := defn 3 9 m_answers
def m_shows_1 : ST := (sRet (e2 vNe (eCall f_answers (aCons (eVar 0) (aCons (eVar 2) (aCons (eDictV [((e2 vIx (eVar 1) (eC (.int 0))), (e2 vIx (eVar 1) (eC (.int 1))))]) aNil)))) (eCall f_answers (aCons (eVar 0) (aCons (eVar 2) (aCons (eC (.dct [])) aNil))))))
def m_shows : ST := (sSeq (sDrop (eCall f_check_flaw (aCons (eVar 0) (aCons (eVar 1) aNil))))
    m_shows_1)
def f_shows : Fn := defn 3 3 m_shows
def m__law_kind2_5 : ST := (sRet (eVar 4))
def m__law_kind2_4 : ST := (sSeq (sIf (bAnd (bVal (e2 vIn (eVar 4) (eArgs vLst (aCons (eC (.str "nand2")) (aCons (eC (.str "nor2")) (aCons (eC (.str "nand3")) (aCons (eC (.str "nor3")) aNil))))))) (bVal (e2 vLt (eVar 1) (eArgs vInt (aCons (e2 vIx (eVar 4) (e1 vNeg (eC (.int 1)))) aNil))))) (sRet (e2 vIx (eArgs vLst (aCons (eC (.str "not")) (aCons (eC (.str "nand2")) aNil))) (e2 vSub (eVar 1) (eC (.int 1))))) sNext)
    m__law_kind2_5)
def m__law_kind2_3 : ST := (sSeq (sIf (bAnd (bVal (e2 vEq (eVar 1) (eC (.int 0)))) (bVal (e2 vNe (eVar 4) (eC (.str "latch"))))) (sRet (e2 vIx (eArgs vLst (aCons (eC (.str "tie0")) (aCons (eC (.str "tie1")) aNil))) (e2 vMod (eArgs vInt (aCons (e2 vIx (eVar 0) (eC (.int 1))) aNil)) (eC (.int 2))))) sNext)
    m__law_kind2_4)
def m__law_kind2_2 : ST := (sSeq (sIf (bAnd (bVal (e2 vEq (eVar 4) (eC (.str "latch")))) (bVal (e2 vEq (eVar 2) (eC (.int 2))))) (sSet 4 (eC (.str "not"))) sNext)
    m__law_kind2_3)
def m__law_kind2_1 : ST := (sSeq (sSet 4 (e2 vIx (e2 vAdd (eVar 3) (eArgs vLst (aCons (eC (.str "latch")) (aCons (eC (.str "latch")) (aCons (eC (.str "tie0")) (aCons (eC (.str "tie1")) aNil)))))) (e2 vIx (eVar 0) (eC (.int 0)))))
    m__law_kind2_2)
def m__law_kind2 : ST := (sSeq (sSet 3 (eArgs vLst (aCons (eC (.str "not")) (aCons (eC (.str "not")) (aCons (eC (.str "nand2")) (aCons (eC (.str "nand2")) (aCons (eC (.str "nand2")) (aCons (eC (.str "nand3")) (aCons (eC (.str "nand3")) (aCons (eC (.str "nor2")) (aCons (eC (.str "nor2")) (aCons (eC (.str "nor2")) (aCons (eC (.str "nor3")) (aCons (eC (.str "nor3")) aNil))))))))))))))
    m__law_kind2_1)
def f__law_kind2 : Fn := defn 3 5 m__law_kind2
def m__law_circuit4_ec_1 : ST := (sAppend 3 (eArgs vTup (aCons (eVar 9) (aCons (eCall f__law_drawn (aCons (eVar 8) (aCons (eC (.int 1)) (aCons (eVar 5) aNil)))) (aCons (eVar 6) aNil)))))
def m__law_circuit4_e_2 : ST := (sIf (bVal (e2 vEq (eVar 9) (eC (.str "latch")))) (sSeq (sSet 4 (e2 vAdd (eVar 4) (eC (.int 1))))
    m__law_circuit4_ec_1) (sIf (bVal (e2 vIn (eVar 9) (eArgs vLst (aCons (eC (.str "tie0")) (aCons (eC (.str "tie1")) aNil))))) (sAppend 3 (eArgs vTup (aCons (eVar 9) (aCons (eArgs vTup aNil) (aCons (eVar 6) aNil))))) (sIf (bVal (e2 vEq (eVar 9) (eC (.str "not")))) (sAppend 3 (eArgs vTup (aCons (eVar 9) (aCons (eCall f__law_drawn (aCons (eVar 8) (aCons (eC (.int 1)) (aCons (eVar 6) aNil)))) (aCons (eVar 6) aNil))))) (sAppend 3 (eArgs vTup (aCons (eVar 9) (aCons (eCall f__law_drawn (aCons (eVar 8) (aCons (eArgs vInt (aCons (e2 vIx (eVar 9) (e1 vNeg (eC (.int 1)))) aNil)) (aCons (eVar 6) aNil)))) (aCons (eVar 6) aNil))))))))
def m__law_circuit4_e_1 : ST := (sSeq (sSet 9 (eCall f__law_kind2 (aCons (eVar 8) (aCons (eVar 6) (aCons (eVar 4) aNil)))))
    m__law_circuit4_e_2)
def m__law_circuit4_e_L : ST := (sSeq (sSet 8 (eCall f__law_parts (aCons (eCall f__law_cell (aCons (eVar 0) (aCons (e2 vSub (e2 vAdd (eC (.int 3)) (eVar 6)) (e2 vIx (eVar 2) (eC (.int 0)))) aNil))) (aCons (eArgs vLst (aCons (eC (.int 16)) (aCons (eC (.int 100)) (aCons (eC (.int 100)) (aCons (eC (.int 100)) aNil))))) aNil))))
    m__law_circuit4_e_1)
def m__law_circuit4_e_F : ST := (sFor (iRange2 (e2 vIx (eVar 2) (eC (.int 0))) (eVar 5)) (pName 6) m__law_circuit4_e_L)
def e__law_circuit4_1 : EX := (eComp (iRange1 (e2 vAdd (eC (.int 1)) (e2 vIx (eVar 2) (eC (.int 1))))) [10] (pName 10) bYes (e2 vMod (eArgs vInt (aCons (e2 vAdd (e2 vIx (eVar 2) (eC (.int 2))) (e2 vMul (eVar 10) (e2 vIx (eVar 2) (eC (.int 3))))) aNil)) (eVar 5)))
def e__law_circuit4_2 : EX := (eComp (iRange1 (eVar 4)) [10] (pName 10) bYes (e2 vMod (eArgs vInt (aCons (e2 vAdd (e2 vIx (eVar 2) (eC (.int 2))) (eVar 10)) aNil)) (eC (.int 4))))
def m__law_circuit4_7 : ST := (sRet (eArgs vTup (aCons (e2 vIx (eVar 2) (eC (.int 0))) (aCons (eArgs vTupOf (aCons (eVar 3) aNil)) (aCons (eVar 7) (aCons (eArgs vTupOf (aCons e__law_circuit4_2 aNil)) aNil))))))
def m__law_circuit4_6 : ST := (sSeq (sSet 7 (eArgs vTupOf (aCons e__law_circuit4_1 aNil)))
    m__law_circuit4_7)
def m__law_circuit4_5 : ST := (sSeq (sFreeze 3) m__law_circuit4_6)
def m__law_circuit4_4 : ST := (sSeq m__law_circuit4_e_F
    m__law_circuit4_5)
def m__law_circuit4_3 : ST := (sSeq (sSet 5 (e2 vAdd (e2 vIx (eVar 2) (eC (.int 0))) (eArgs vMin (aCons (eVar 1) (aCons (eArgs vMax (aCons (eC (.int 1)) (aCons (e2 vSub (eArgs vLen (aCons (eVar 0) aNil)) (eC (.int 3))) aNil))) aNil)))))
    m__law_circuit4_4)
def m__law_circuit4_2 : ST := (sSeq (sSet 4 (eC (.int 0)))
    m__law_circuit4_3)
def m__law_circuit4_1 : ST := (sSeq (sOwn 3 (eArgs vLst aNil))
    m__law_circuit4_2)
def m__law_circuit4 : ST := (sSeq (sSet 2 (eCall f__law_parts (aCons (eCall f__law_cell (aCons (eVar 0) (aCons (eC (.int 0)) aNil))) (aCons (eArgs vLst (aCons (eC (.int 4)) (aCons (eC (.int 6)) (aCons (eC (.int 100)) (aCons (eC (.int 100)) aNil))))) aNil))))
    m__law_circuit4_1)
def f__law_circuit4 : Fn := defn 2 11 m__law_circuit4
def m__law_answers_c_L : ST := (sAppend 4 (e2 vSub (e2 vDiv (eVar 1) (e2 vIx (eArgs vLst (aCons (eC (.int 1)) (aCons (eC (.int 2)) (aCons (eC (.int 4)) (aCons (eC (.int 8)) (aCons (eC (.int 16)) (aCons (eC (.int 32)) (aCons (eC (.int 64)) aNil)))))))) (eVar 6))) (e2 vMul (e2 vDiv (eVar 1) (e2 vIx (eArgs vLst (aCons (eC (.int 2)) (aCons (eC (.int 4)) (aCons (eC (.int 8)) (aCons (eC (.int 16)) (aCons (eC (.int 32)) (aCons (eC (.int 64)) (aCons (eC (.int 128)) aNil)))))))) (eVar 6))) (eC (.int 2)))))
def m__law_answers_c_F : ST := (sFor (iRange1 (eVar 5)) (pName 6) m__law_answers_c_L)
def m__law_answers_ea_1 : ST := (sSet 5 (e2 vAdd (eVar 5) (eC (.int 1))))
def e__law_answers_1 : EX := (eComp (iSeq (e2 vIx (eVar 7) (eC (.int 1)))) [10] (pName 10) bYes (e2 vIx (eVar 4) (eVar 10)))
def m__law_answers_e_1 : ST := (sIf (bVal (e2 vEq (e2 vIx (eVar 7) (eC (.int 2))) (eVar 2))) (sOn 4 (sItem 4 (eVar 2) (eVar 3))) sNext)
def m__law_answers_e_L : ST := (sSeq (sIf (bVal (e2 vEq (e2 vIx (eVar 7) (eC (.int 0))) (eC (.str "latch")))) (sSeq (sAppend 4 (e2 vSub (e2 vDiv (eVar 1) (e2 vIx (eArgs vLst (aCons (eC (.int 1)) (aCons (eC (.int 2)) (aCons (eC (.int 4)) (aCons (eC (.int 8)) (aCons (eC (.int 16)) (aCons (eC (.int 32)) (aCons (eC (.int 64)) aNil)))))))) (eVar 5))) (e2 vMul (e2 vDiv (eVar 1) (e2 vIx (eArgs vLst (aCons (eC (.int 2)) (aCons (eC (.int 4)) (aCons (eC (.int 8)) (aCons (eC (.int 16)) (aCons (eC (.int 32)) (aCons (eC (.int 64)) (aCons (eC (.int 128)) aNil)))))))) (eVar 5))) (eC (.int 2)))))
    m__law_answers_ea_1) (sAppendN 4 (eCall f__law_value (aCons (e2 vIx (eVar 7) (eC (.int 0))) (aCons e__law_answers_1 aNil)))))
    m__law_answers_e_1)
def m__law_answers_e_F : ST := (sFor (iSeq (e2 vIx (eVar 0) (eC (.int 1)))) (pName 7) m__law_answers_e_L)
def e__law_answers_2 : EX := (eComp (iSeq (e2 vIx (eVar 0) (eC (.int 1)))) [7] (pName 7) (bVal (e2 vEq (e2 vIx (eVar 7) (eC (.int 0))) (eC (.str "latch")))) (e2 vIx (e2 vIx (eVar 7) (eC (.int 1))) (eC (.int 0))))
def e__law_answers_3 : EX := (eComp (iSeq (eVar 8)) [9] (pName 9) bYes (e2 vIx (eVar 4) (eVar 9)))
def m__law_answers_7 : ST := (sRet e__law_answers_3)
def m__law_answers_6 : ST := (sSeq (sSet 8 (e2 vAdd (eArgs vListOf (aCons (e2 vIx (eVar 0) (eC (.int 2))) aNil)) e__law_answers_2))
    m__law_answers_7)
def m__law_answers_5 : ST := (sSeq (sFreeze 4) m__law_answers_6)
def m__law_answers_4 : ST := (sSeq m__law_answers_e_F
    m__law_answers_5)
def m__law_answers_3 : ST := (sSeq (sIf (bAnd (bVal (e2 vGe (eVar 2) (eC (.int 0)))) (bVal (e2 vLt (eVar 2) (eVar 5)))) (sOn 4 (sItem 4 (eVar 2) (eVar 3))) sNext)
    m__law_answers_4)
def m__law_answers_2 : ST := (sSeq m__law_answers_c_F
    m__law_answers_3)
def m__law_answers_1 : ST := (sSeq (sSet 5 (e2 vIx (eVar 0) (eC (.int 0))))
    m__law_answers_2)
def m__law_answers : ST := (sSeq (sOwn 4 (eArgs vLst aNil))
    m__law_answers_1)
def f__law_answers : Fn := defn 4 11 m__law_answers
end Lib
end Vm
end
noncomputable section
namespace Vm
local macro_rules | `(tactic| simp! [$ts,*]) => `(tactic| simp only [Ok_seq, OkM_seq, OkM_next, OkM_ret, OkM_exc, OkM_brk, OkM_cont, OkM_bind, OkM_cond, OkM_ite, RS.bind_ok, RS.bind_exc, RS.bind_bad, Res.flow_exc, Flow.bind_exc, RS.flow_ok, RS.flow_exc, RS.flow_bad, Res.rs_ok, Res.rs_exc, Res.rs_bad, RSflow_ite, RSbind_ite, RSflow_cond, RSbind_cond, rs_ite, rs_cond, mH, mN, mNil, mCons, mLst, mTup, m1, m2, mIf, mAnd, mOr, mNot, mFn, mArgs, bmP, bmV, bmT, bmAnd, bmOr, bmNot, sSetM, sDropM, sRetM, sIfM, sRaise, sSet, sSetN, sOwn, sOwnN, sAppend, sAppendN, sFreeze, sForget, sIf, sRet, sRetN, sNext, sPut, sDrop, sAug, sOn, sItem, sItemN, itemPut, sBreak, sCont, hide, Slot.hide, eVar, eC, e1, e2, eArgs, eAnd, eOr, eNot, eIf, eChain, eCall, eCut, partOf, aNil, aCons, asBl, bVal, bTruth, bAnd, bOr, bNot, bYes, truth, vAdd_int, vAdd_lst, vAdd_tup, vSub, vMul_int, vDiv_int, vMod_int, vPow18, vPow12, vPow11, vPow9, vPow6, vNeg, vLt, vLe, vGt, vGe, vEq, vNe, eqR_int, eqR_bl, eqR_str, vIsi, Val.isOb, vTup, vLst, vLen_lst, vLen_tup, vInt, vIs, vIsNot, vIx_lst, vIx_tup, vIx_dct, vListOf, vTupOf, vIpAdd, vMax2, vMax3, vMin2, Val.ty, Ty.sub, noLst_int, noLst_bl, noLst_str, noLst_non, noLst_tup, noLsts_nil, noLsts_cons, noLsts_ints, pName, pTup, pTupL, putAll, iSeq, itemsOf, iRange1, iRange2, DR.res, Res.ofOpt_some, Res.ofOpt_none, Res.bind_ok, Res.bind_exc, Res.bind_bad, Res.nx_ok, Res.flow_ok, Res.flow_bad, Flow.bind_next, Flow.bind_ret, Flow.bind_brk, Flow.bind_cont, Flow.bind_bad, Ok_next, Ok_ret, Ok_brk, Ok_cont, Ok_bind, Ok_cond, Ok_ite, Ok_ofOpt, flow_ite, bind_ite, nx_ite', flow_cond, bind_cond, cond_andV, cond_orV, cond_and, cond_or, atI_nat, atI_0, atI_1, atI_lit, startE, List.map_cons, List.map_nil, List.length_cons, List.length_nil, List.getElem?_cons_zero, List.getElem?_cons_succ, List.set_cons_zero, List.set_cons_succ, List.set_nil, List.replicate, List.append_nil, List.cons_append, List.nil_append, Nat.sub_self, Nat.reduceAdd, Nat.reduceSub, Nat.reduceLT, Nat.reduceLeDiff, Nat.reduceEqDiff, Int.reduceLE, Int.reduceLT, Int.reduceToNat, Int.reducePow, Int.reduceMul, Int.reduceAdd, Int.reduceSub, Int.reduceNeg, Int.cast_ofNat_Int, if_true, if_false, ↓reduceIte, reduceCtorEq, beq_self_eq_true, and_true, true_and, decide_eq_true_eq, decide_eq_false_iff_not, Bool.not_eq_true', Bool.not_eq_false', Bool.and_true, Bool.true_and, Bool.or_true, Bool.and_false, Bool.or_false, Bool.false_or, Bool.true_or, Bool.false_and, Bool.not_true, Bool.not_false, beq_iff_eq, forall_const, false_implies, Option.map_some, decide_true, decide_false, cond_true, cond_false, $ts,*])
namespace Lib
open PySem
def KindP2 (k : Str) (nets lats : Nat) : Prop := (k = kLatch ∧ lats ≠ 2) ∨ (k ∈ plainKinds ∧ arity k ≤ nets)
abbrev KE2 (ps : List Int) (nets lats : Nat) (x3 : Val) (k : Str) : Env := [.sh (.lst (ps.map .int)), .sh (.int nets), .sh (.int lats), .sh x3, .sh (.str k)]
theorem tail_big2 {N B T : Env → Prop} {ps : List Int} {nets lats : Nat} {x3 : Val} {k : Str} {d : Str} {n : Nat} (hk : k ∈ plainKinds) (ha : arity k = n) (hn : n = 2 ∨ n = 3) (hm : vInS (.str k) (.lst [.str "nand2", .str "nor2", .str "nand3", .str "nor3"]) = .ok (.bl true)) (h1 : vIx (.str k) (.int (-1)) = .ok (.str d)) (h2 : digitOf d = some (n : Int)) (hp : 0 < nets) :
    Ok (m__law_kind2_4 (KE2 ps nets lats x3 k)) N (fun y => ∃ k, y = .str k ∧ KindP2 k nets lats) B T := by
  have hm' : vIn (.str k) (.lst [.str "nand2", .str "nor2", .str "nand3", .str "nor3"]) = .ok (.bl true) := hm
  unfold m__law_kind2_4
  simp! [hm', h1, h2]
  refine ⟨fun hlt => ?_, fun hge => ?_⟩
  · have : nets = 1 ∨ nets = 2 := by omega
    rcases this with rfl | rfl
    · refine ⟨.str "not", rfl, kNot, rfl, .inr ⟨by decide, by decide⟩⟩
    · refine ⟨.str "nand2", rfl, kNand2, rfl, .inr ⟨by decide, by decide⟩⟩
  · refine Then.mk ?_; unfold m__law_kind2_5; simp! []
    exact ⟨k, rfl, .inr ⟨hk, by omega⟩⟩
theorem tail_small2 {N B T : Env → Prop} {ps : List Int} {nets lats : Nat} {x3 : Val} {k : Str} (hm : vInS (.str k) (.lst [.str "nand2", .str "nor2", .str "nand3", .str "nor3"]) = .ok (.bl false)) (hP : KindP2 k nets lats) :
    Ok (m__law_kind2_4 (KE2 ps nets lats x3 k)) N (fun y => ∃ k, y = .str k ∧ KindP2 k nets lats) B T := by
  have hm' : vIn (.str k) (.lst [.str "nand2", .str "nor2", .str "nand3", .str "nor3"]) = .ok (.bl false) := hm
  unfold m__law_kind2_4
  simp! [hm']
  refine Then.mk ?_; unfold m__law_kind2_5; simp! []
  exact ⟨k, rfl, hP⟩
theorem kind32 {N B T : Env → Prop} {ps : List Int} (hp : 2 ≤ ps.length) {nets lats : Nat} {x3 : Val} {k : Str} (hk : k ∈ allKinds) (hl : k = kLatch → lats ≠ 2) :
    Ok (m__law_kind2_3 (KE2 ps nets lats x3 k)) N (fun y => ∃ k, y = .str k ∧ KindP2 k nets lats) B T := by
  have p1 : (ps.map Val.int)[1]? = some (.int (ps[1]'(by omega))) := map_get? _ _ 1 (by omega)
  have m0 := Int.emod_nonneg (ps[1]'(by omega)) (show (2 : Int) ≠ 0 by omega)
  have m1 := Int.emod_lt_of_pos (ps[1]'(by omega)) (show (0 : Int) < 2 by omega)
  have tie : ∃ k, atI [Val.str "tie0", .str "tie1"] ((ps[1]'(by omega)) % 2) = some (.str k) ∧ KindP2 k nets lats := by
    have : (ps[1]'(by omega)) % 2 = 0 ∨ (ps[1]'(by omega)) % 2 = 1 := by omega
    rcases this with h | h
    · rw [h]; exact ⟨kTie0, rfl, .inr ⟨by decide, Nat.zero_le _⟩⟩
    · rw [h]; exact ⟨kTie1, rfl, .inr ⟨by decide, Nat.zero_le _⟩⟩
  obtain ⟨kt, ht, hP⟩ := tie
  unfold m__law_kind2_3
  by_cases h0 : nets = 0
  · subst h0
    by_cases hx : k = kLatch
    · subst hx
      have e : (kLatch == Str.ofString "latch") = true := rfl
      simp! [e, Int.reduceBEq]
      exact Then.mk (tail_small2 (k := kLatch) rfl (.inl ⟨rfl, hl rfl⟩))
    · have e : (k == Str.ofString "latch") = false := by rw [beq_eq_false_iff_ne]; exact hx
      simp! [e, p1, ht]
      exact ⟨kt, rfl, hP⟩
  · have e0 : ((nets : Int) == 0) = false := by rw [beq_eq_false_iff_ne]; omega
    have goal : Then m__law_kind2_4 N (fun y => ∃ k, y = .str k ∧ KindP2 k nets lats) B T (KE2 ps nets lats x3 k) := by
      refine Then.mk ?_
      simp only [allKinds, List.mem_cons, List.not_mem_nil, or_false] at hk
      rcases hk with rfl | rfl | rfl | rfl | rfl | rfl | rfl | rfl
      · exact tail_small2 rfl (.inl ⟨rfl, hl rfl⟩)
      · exact tail_small2 rfl (.inr ⟨by decide, by show 1 ≤ nets; omega⟩)
      · exact tail_big2 (d := "2") (n := 2) (by decide) rfl (by omega) rfl rfl rfl (by omega)
      · exact tail_big2 (d := "3") (n := 3) (by decide) rfl (by omega) rfl rfl rfl (by omega)
      · exact tail_big2 (d := "2") (n := 2) (by decide) rfl (by omega) rfl rfl rfl (by omega)
      · exact tail_big2 (d := "3") (n := 3) (by decide) rfl (by omega) rfl rfl rfl (by omega)
      · exact tail_small2 rfl (.inr ⟨by decide, Nat.zero_le _⟩)
      · exact tail_small2 rfl (.inr ⟨by decide, Nat.zero_le _⟩)
    simp! [e0]
    exact goal
theorem kind_ok2 (ps : List Int) (hp : Parts ps [16, 100, 100, 100]) (nets lats : Nat) : ∃ k, f__law_kind2 [.lst (ps.map .int), .int nets, .int lats] = .ret (.str k) ∧ KindP2 k nets lats := by
  suffices hh : ∃ y, f__law_kind2 [.lst (ps.map .int), .int nets, .int lats] = .ret y ∧ ∃ k, y = .str k ∧ KindP2 k nets lats by
    obtain ⟨y, h, k, rfl, h2⟩ := hh; exact ⟨k, h, h2⟩
  refine defn_some rfl ?_
  have hl : ps.length = 4 := hp.1
  have p0 : (ps.map Val.int)[0]? = some (.int (ps[0]'(by omega))) := map_get? _ _ 0 (by omega)
  obtain ⟨k0, hk0, e0⟩ := kinds16 (ps[0]'(by omega)) (hp.2 0 (by omega) (by simp))
  unfold m__law_kind2
  simp! []
  refine Then.mk ?_; unfold m__law_kind2_1; simp! [p0, e0]
  refine Then.mk ?_
  unfold m__law_kind2_2
  by_cases hx : k0 = kLatch ∧ lats = 2
  · obtain ⟨rfl, rfl⟩ := hx
    have e : (kLatch == Str.ofString "latch") = true := rfl
    simp! [e, Int.reduceBEq]
    exact Then.mk (kind32 (k := kNot) (nets := nets) (lats := 2) (by omega) (by decide) (fun h => absurd h (by decide)))
  · simp! []
    refine ⟨fun h => absurd ⟨?_, ?_⟩ hx, fun _ => Then.mk (kind32 (by omega) hk0 fun h1 h2 => hx ⟨h1, h2⟩)⟩
    · rw [Bool.and_eq_true, beq_iff_eq, beq_iff_eq] at h; exact h.1
    · rw [Bool.and_eq_true, beq_iff_eq, beq_iff_eq] at h; omega
abbrev CE02 (ns : List Int) (most : Int) (hd : List Int) (cs : List Cell) (lats total : Nat) (s6 s8 s9 : Slot) : Env := [.sh (.lst (ns.map .int)), .sh (.int most), .sh (.lst (hd.map .int)), .oL (cs.map Cell.v), .sh (.int lats), .sh (.int total), s6, .un, s8, s9, .un]
def CInv2 (ns : List Int) (most : Int) (hd : List Int) (n total i : Nat) (env : Env) : Prop := ∃ (cs : List Cell) (lats : Nat) (s6 s8 s9 : Slot), env = CE02 ns most hd cs lats total s6 s8 s9 ∧ cs.length = i ∧ GCells total n cs ∧ (latches cs).length = lats ∧ lats ≤ 2
theorem cell_step2 {R : Val → Prop} {B : Env → Prop} {ns : List Int} {most : Int} {hd : List Int} {n total i lats : Nat} {cs : List Cell} {ps : List Int} {k : Str} (hi : i < total - n) (hn : n ≤ total) (ht : total ≤ 46) (hc : cs.length = i) (hg : GCells total n cs) (hl : (latches cs).length = lats) (h4 : lats ≤ 2) (hp : ps.length = 4) (hk : KindP2 k (n + i) lats) :
    Ok (m__law_circuit4_e_2 (CE02 ns most hd cs lats total (.sh (.int ((n : Int) + (i : Int)))) (.sh (.lst (ps.map .int))) (.sh (.str k)))) (CInv2 ns most hd n total (i + 1)) R B (CInv2 ns most hd n total (i + 1)) := by
  have hcast : ((n : Int) + (i : Int)) = ((n + i : Nat) : Int) := by omega
  rw [hcast]
  have fin : ∀ (ins : List Nat) (lats' : Nat) (s6 s8 s9 : Slot), GCell total (n + i) ⟨k, ins, n + i⟩ → lats' = lats + (if k = kLatch then 1 else 0) → lats' ≤ 2 → ∀ env, env = CE02 ns most hd (cs ++ [⟨k, ins, n + i⟩]) lats' total s6 s8 s9 → CInv2 ns most hd n total (i + 1) env := by
    intro ins lats' s6 s8 s9 g e h env he
    refine ⟨_, lats', s6, s8, s9, he, by rw [List.length_append, hc]; rfl, GCells.snoc hg (by rw [hc]; exact g), ?_, h⟩
    rw [latches_snoc, hl, e]
  have lcs : (cs.map Cell.v).length < 16777216 := by rw [List.length_map]; omega
  have lcs' : cs.length < 16777216 := by omega
  unfold m__law_circuit4_e_2
  rcases hk with ⟨rfl, h4'⟩ | ⟨hk, ha⟩
  · obtain ⟨ds, e1, d1, d2, d3⟩ := drawn_ok ps 1 total (by omega) (by omega) (by omega)
    have e1' : f__law_drawn [.lst (ps.map .int), .int 1, .int total] = .ret (.tup (ds.map iv)) := e1
    have q : (kLatch == Str.ofString "latch") = true := rfl
    simp! [CE02, q]
    refine Then.mk ?_; unfold m__law_circuit4_ec_1; simp! [e1', List.length_map, lcs']
    refine fin ds (lats + 1) (.sh (.int (n + i : Nat))) (.sh (.lst (ps.map .int))) (.sh (.str kLatch)) ⟨.inl rfl, d1, rfl, fun h => absurd rfl h, d3, d2⟩ (by rw [if_pos rfl]) (by omega) _ ?_
    unfold CE02
    rw [List.map_append]; rfl
  · simp only [plainKinds, List.mem_cons, List.not_mem_nil, or_false] at hk
    have small : ∀ k' : Str, k = k' → (k' == Str.ofString "latch") = false → k' ∈ plainKinds → k' ≠ kLatch → GCells total n cs → True := fun _ _ _ _ _ _ => trivial
    have big : ∀ (d : Str) (m : Nat), k ∈ plainKinds → k ≠ kLatch → (k == Str.ofString "latch") = false → (k == Str.ofString "not") = false → vInS (.str k) (.lst [.str "tie0", .str "tie1"]) = .ok (.bl false) → vIx (.str k) (.int (-1)) = .ok (.str d) → digitOf d = some (m : Int) → arity k = m → m ≤ 3 →
        Ok (m__law_circuit4_e_2 (CE02 ns most hd cs lats total (.sh (.int (n + i : Nat))) (.sh (.lst (ps.map .int))) (.sh (.str k)))) (CInv2 ns most hd n total (i + 1)) R B (CInv2 ns most hd n total (i + 1)) := by
      intro d m hkp hne q1 q2 q3 q4 q5 q6 q7
      obtain ⟨ds, e1, d1, d2, d3⟩ := drawn_ok ps m (n + i) (by omega) (by omega) (by omega)
      have q3' : vIn (.str k) (.lst [.str "tie0", .str "tie1"]) = .ok (.bl false) := q3
      have q1' : (k = Str.ofString "latch") = False := eq_false (by simpa using q1)
      have q2' : (k = Str.ofString "not") = False := eq_false (by simpa using q2)
      unfold m__law_circuit4_e_2
      simp! [CE02, q1, q1', q2, q2', q3', q4, q5, e1, List.length_map, lcs']
      refine fin ds lats (.sh (.int (n + i : Nat))) (.sh (.lst (ps.map .int))) (.sh (.str k)) ⟨.inr hkp, by rw [d1, q6], rfl, fun _ => d3, fun x hx => by have := d3 x hx; omega, d2⟩ (by rw [if_neg hne]; rfl) h4 _ ?_
      unfold CE02
      rw [List.map_append]; rfl
    have tie : ∀ _ : k = kTie0 ∨ k = kTie1,
        Ok (m__law_circuit4_e_2 (CE02 ns most hd cs lats total (.sh (.int (n + i : Nat))) (.sh (.lst (ps.map .int))) (.sh (.str k)))) (CInv2 ns most hd n total (i + 1)) R B (CInv2 ns most hd n total (i + 1)) := by
      intro hk
      have hne : k ≠ kLatch := by rcases hk with rfl | rfl <;> decide
      have hkp : k ∈ plainKinds := by rcases hk with rfl | rfl <;> decide
      have q1 : (k == Str.ofString "latch") = false := by rcases hk with rfl | rfl <;> rfl
      have q1' : (k = Str.ofString "latch") = False := eq_false (by simpa using q1)
      have q3' : vIn (.str k) (.lst [.str "tie0", .str "tie1"]) = .ok (.bl true) := by rcases hk with rfl | rfl <;> rfl
      have har : 0 = arity k := by rcases hk with rfl | rfl <;> rfl
      unfold m__law_circuit4_e_2
      simp! [CE02, q1, q1', q3', List.length_map, lcs']
      refine fin [] lats (.sh (.int (n + i : Nat))) (.sh (.lst (ps.map .int))) (.sh (.str k)) ⟨.inr hkp, har, rfl, fun _ x hx => (nomatch hx), fun x hx => (nomatch hx), List.nodup_nil⟩ (by rw [if_neg hne]; rfl) h4 _ ?_
      unfold CE02
      rw [List.map_append]; rfl
    have not : k = kNot →
        Ok (m__law_circuit4_e_2 (CE02 ns most hd cs lats total (.sh (.int (n + i : Nat))) (.sh (.lst (ps.map .int))) (.sh (.str k)))) (CInv2 ns most hd n total (i + 1)) R B (CInv2 ns most hd n total (i + 1)) := by
      rintro rfl
      have ha : 1 ≤ n + i := ha
      obtain ⟨ds, e1, d1, d2, d3⟩ := drawn_ok ps 1 (n + i) ha (by omega) (by omega)
      have e1' : f__law_drawn [.lst (ps.map .int), .int 1, .int (n + i : Nat)] = .ret (.tup (ds.map iv)) := e1
      have q1 : (kNot == Str.ofString "latch") = false := rfl
      have q1' : (kNot = Str.ofString "latch") = False := eq_false (by decide)
      have q2 : (kNot == Str.ofString "not") = true := rfl
      have q3' : vIn (.str kNot) (.lst [.str "tie0", .str "tie1"]) = .ok (.bl false) := rfl
      unfold m__law_circuit4_e_2
      simp! [CE02, q1, q1', q2, q3', e1', List.length_map, lcs']
      refine fin ds lats (.sh (.int (n + i : Nat))) (.sh (.lst (ps.map .int))) (.sh (.str kNot)) ⟨.inr (show kNot ∈ plainKinds by decide), d1, rfl, fun _ => d3, fun x hx => by have := d3 x hx; omega, d2⟩ (by rw [if_neg (by decide)]; rfl) h4 _ ?_
      unfold CE02
      rw [List.map_append]; rfl
    have back := @big
    unfold m__law_circuit4_e_2 at big tie not
    rcases hk with rfl | rfl | rfl | rfl | rfl | rfl | rfl
    · exact not rfl
    · exact big "2" 2 (by decide) (by decide) rfl rfl rfl rfl rfl rfl (by omega)
    · exact big "3" 3 (by decide) (by decide) rfl rfl rfl rfl rfl rfl (by omega)
    · exact big "2" 2 (by decide) (by decide) rfl rfl rfl rfl rfl rfl (by omega)
    · exact big "3" 3 (by decide) (by decide) rfl rfl rfl rfl rfl rfl (by omega)
    · exact tie (.inl rfl)
    · exact tie (.inr rfl)
theorem circ_rest2 {ns : List Int} (hns : ns.length ≤ 63) (most : Nat) (h1 : 1 ≤ most) (h40 : most ≤ 40) (n h6 h100 h100' : Nat) (hn : n ≤ 6) (hh : h6 < 6) (hb : h100' < 100) {N B T : Env → Prop} :
    Ok (m__law_circuit4_1 [.sh (.lst (ns.map .int)), .sh (.int most), .sh (.lst [.int n, .int h6, .int h100, .int h100']), .un, .un, .un, .un, .un, .un, .un, .un]) N (fun y => ∃ c : Circ, y = c.v ∧ c.Good ∧ c.n = n ∧ c.cells.length = min most (max 1 (ns.length - 3)) ∧ 0 < c.cells.length ∧ c.lat.length ≤ 2) B T := by
  obtain ⟨nc, hnc⟩ : ∃ nc : Nat, nc = min most (max 1 (ns.length - 3)) := ⟨_, rfl⟩
  have hnc1 : 1 ≤ nc := by omega
  have hnc40 : nc ≤ 40 := by omega
  have hmm : min (most : Int) (max 1 ((ns.length : Int) - 3)) = (nc : Int) := by omega
  unfold m__law_circuit4_1
  simp! []
  refine Then.mk ?_; unfold m__law_circuit4_2; simp! []
  refine Then.mk ?_; unfold m__law_circuit4_3; simp! [List.length_map, hmm]
  refine Then.mk ?_
  unfold m__law_circuit4_4
  simp only [Ok_seq]
  unfold m__law_circuit4_e_F
  have ct : (n : Int) + (nc : Int) = ((n + nc : Nat) : Int) := by omega
  rw [ct]
  have s1 := smallI_nat (n := n) (by omega)
  have s2 := smallI_nat (n := n + nc) (by omega)
  have e1 : ((n + nc : Nat) : Int) - (n : Int) = (nc : Int) := by omega
  refine Ok_for (xs := rangeL n nc) (by simp! [s1, s2, e1, Bool.and_self, Int.toNat_natCast]) ?_
  refine forL_ok _ (CInv2 ns most [(n : Int), h6, h100, h100'] n (n + nc)) _ ⟨[], 0, .un, .un, .un, rfl, rfl, .nil _, rfl, by omega⟩ ?_ ?_
  · rintro i hi env ⟨cs, lats, s6, s8, s9, rfl, hc, hg, hl, h4⟩
    rw [range_len] at hi
    rw [range_get]
    refine ⟨CE02 ns most [(n : Int), h6, h100, h100'] cs lats (n + nc) (.sh (.int ((n : Int) + (i : Int)))) s8 s9, rfl, ?_⟩
    have ei : (3 : Int) + ((n : Int) + (i : Int)) - (n : Int) = ((3 + i : Nat) : Int) := by omega
    obtain ⟨z, ez⟩ := cell_k ns (3 + i)
    obtain ⟨ps, ep, hp⟩ := parts_k z [16, 100, 100, 100] (by decide) (by decide)
    have ep' : f__law_parts [.int z, .lst [.int 16, .int 100, .int 100, .int 100]] = .ret (.lst (ps.map .int)) := ep
    obtain ⟨k, ek, hk⟩ := kind_ok2 ps hp (n + i) lats
    have ek' : f__law_kind2 [.lst (ps.map .int), .int ((n : Int) + (i : Int)), .int lats] = .ret (.str k) := ek
    unfold m__law_circuit4_e_L
    simp! [CE02, ei, ez, ep']
    refine Then.mk ?_; unfold m__law_circuit4_e_1; simp! [ek']
    exact Then.mk (cell_step2 (ns := ns) (most := most) (hd := [(n : Int), h6, h100, h100']) (by omega) (by omega) (by omega) hc hg hl h4 hp.1 hk)
  · rintro env ⟨cs, lats, s6, s8, s9, rfl, hc, hg, hl, h4⟩
    rw [range_len] at hc
    refine Then.mk ?_; unfold m__law_circuit4_5; simp! [CE02]
    refine Then.mk ?_
    unfold m__law_circuit4_6
    simp only [Ok_seq]
    have o1 : ∀ t6 t8 t9 : Slot, e__law_circuit4_1 [.sh (.lst (ns.map .int)), .sh (.int most), .sh (.lst [.int n, .int h6, .int h100, .int h100']), .sh (.lst (cs.map Cell.v)), .sh (.int lats), .sh (.int (n + nc : Nat)), t6, .un, t8, t9, .un] = .ok (.lst (((List.range (1 + h6)).map fun k => (h100 + k * h100') % (n + nc)).map iv)) := by
      intro t6 t8 t9
      unfold e__law_circuit4_1
      have c1 : (1 : Int) + (h6 : Int) = ((1 + h6 : Nat) : Int) := by omega
      rw [eComp_all (fun k : Nat => Val.int (0 + (k : Int))) (fun k => iv ((h100 + k * h100') % (n + nc))) (List.range (1 + h6)) ?_ (by simp; omega)]
      · rw [List.map_map]; rfl
      · intro k hk
        refine ⟨_, rfl, ?_⟩
        rw [List.mem_range] at hk
        rw [Int.zero_add]
        have m1 : mulOk (k : Int) (h100' : Int) = true := mulOk_r _ _ (by omega)
        have c2 : ((h100 : Int) + (k : Int) * (h100' : Int)) % ((n + nc : Nat) : Int) = (((h100 + k * h100') % (n + nc) : Nat) : Int) := by
          push_cast; rfl
        simp! [wipeE, m1, c2]
        rw [if_pos (by omega)]
        rfl
      · refine (range1_ok (n := 1 + h6) (by simp! [c1]) (by omega)).trans ?_
        rfl
    have ol : ((((List.range (1 + h6)).map fun k => (h100 + k * h100') % (n + nc))).map iv).length ≤ 16777216 := by simp; omega
    simp! [o1]
    refine Then.mk ?_
    unfold m__law_circuit4_7
    have o2 : ∀ x7 : Slot, e__law_circuit4_2 [.sh (.lst (ns.map .int)), .sh (.int most), .sh (.lst [.int n, .int h6, .int h100, .int h100']), .sh (.lst (cs.map Cell.v)), .sh (.int lats), .sh (.int (n + nc : Nat)), s6, x7, s8, s9, .un] = .ok (.lst (((List.range lats).map fun k => (h100 + k) % 4).map iv)) := by
      intro x7
      unfold e__law_circuit4_2
      rw [eComp_all (fun k : Nat => Val.int (0 + (k : Int))) (fun k => iv ((h100 + k) % 4)) (List.range lats) ?_ (by simp; omega)]
      · rw [List.map_map]; rfl
      · intro k hk
        refine ⟨_, rfl, ?_⟩
        rw [Int.zero_add]
        have c2 : ((h100 : Int) + (k : Int)) % 4 = (((h100 + k) % 4 : Nat) : Int) := by
          push_cast; rfl
        simp! [wipeE, c2]
        rfl
      · refine (range1_ok (n := lats) (by simp! []) (by omega)).trans ?_
        rfl
    simp! [o2]
    refine ⟨⟨n, cs, (List.range (1 + h6)).map fun k => (h100 + k * h100') % (n + nc), (List.range lats).map fun k => (h100 + k) % 4⟩, rfl, ⟨hn, (by show cs.length ≤ 40; omega), ?_, (by show 0 < ((List.range (1 + h6)).map _).length; rw [List.length_map, List.length_range]; omega), (by show ((List.range (1 + h6)).map _).length ≤ 6; rw [List.length_map, List.length_range]; omega), ?_, (by show ((List.range lats).map _).length = _; rw [List.length_map, List.length_range]; exact hl.symm), (by show ((List.range lats).map _).length ≤ 4; rw [List.length_map, List.length_range]; omega)⟩, rfl, (by show cs.length = _; omega), (by show 0 < cs.length; omega), (by show ((List.range lats).map _).length ≤ 2; rw [List.length_map, List.length_range]; exact h4)⟩
    · show GCells (n + cs.length) n cs
      rw [hc]; exact hg
    · intro x hx
      rw [List.mem_map] at hx
      obtain ⟨k, _, rfl⟩ := hx
      show _ < n + cs.length
      rw [hc]
      exact Nat.mod_lt _ (by omega)
theorem circuit4_ok (ns : List Int) (hns : ns.length ≤ 63) (most : Nat) (h1 : 1 ≤ most) (h40 : most ≤ 40) : ∃ c : Circ, f__law_circuit4 [.lst (ns.map .int), .int most] = .ret c.v ∧ c.Good ∧ c.cells.length ≤ most ∧ 0 < c.cells.length ∧ c.n ≤ 3 ∧ c.lat.length ≤ 2 := by
  suffices hh : ∃ y, f__law_circuit4 [.lst (ns.map .int), .int most] = .ret y ∧ ∃ c : Circ, y = c.v ∧ c.Good ∧ c.cells.length ≤ most ∧ 0 < c.cells.length ∧ c.n ≤ 3 ∧ c.lat.length ≤ 2 by
    obtain ⟨y, h, c, rfl, h2⟩ := hh; exact ⟨c, h, h2⟩
  refine defn_some rfl ?_
  obtain ⟨z, ez⟩ := cell_k ns 0
  have ez : f__law_cell [.lst (ns.map .int), .int 0] = .ret (.int z) := ez
  obtain ⟨ps, ep, hp⟩ := parts_k z [4, 6, 100, 100] (by decide) (by decide)
  obtain ⟨p0, _, rfl, h0, hp⟩ := hp.cons
  obtain ⟨p1, _, rfl, hp1, hp⟩ := hp.cons
  obtain ⟨p2, _, rfl, hp2, hp⟩ := hp.cons
  obtain ⟨p3, _, rfl, hp3, hp⟩ := hp.cons
  obtain rfl := hp.nil'
  simp only [List.map_cons, List.map_nil] at ep
  obtain ⟨n, rfl⟩ := Int.eq_ofNat_of_zero_le h0.1
  obtain ⟨a, rfl⟩ := Int.eq_ofNat_of_zero_le hp1.1
  obtain ⟨b, rfl⟩ := Int.eq_ofNat_of_zero_le hp2.1
  obtain ⟨d, rfl⟩ := Int.eq_ofNat_of_zero_le hp3.1
  unfold m__law_circuit4
  simp! [ez, ep]
  exact Then.mk ((circ_rest2 hns most h1 h40 n a b d (by omega) (by omega) (by omega) (N := fun _ => ∃ c : Circ, Val.non = c.v ∧ c.Good ∧ c.cells.length ≤ most ∧ 0 < c.cells.length ∧ c.n ≤ 3 ∧ c.lat.length ≤ 2) (B := fun _ => False) (T := fun _ => False)).imp (fun _ h => h) (fun y ⟨c, q1, q2, q3, q4, q5, q6⟩ => ⟨c, q1, q2, by omega, q5, by omega, q6⟩) (fun _ h => h) (fun _ h => h))
end Lib
end Vm
end
noncomputable section
namespace Vm
local macro_rules | `(tactic| simp! [$ts,*]) => `(tactic| simp only [Ok_seq, OkM_seq, OkM_next, OkM_ret, OkM_exc, OkM_brk, OkM_cont, OkM_bind, OkM_cond, OkM_ite, RS.bind_ok, RS.bind_exc, RS.bind_bad, Res.flow_exc, Flow.bind_exc, RS.flow_ok, RS.flow_exc, RS.flow_bad, Res.rs_ok, Res.rs_exc, Res.rs_bad, RSflow_ite, RSbind_ite, RSflow_cond, RSbind_cond, rs_ite, rs_cond, mH, mN, mNil, mCons, mLst, mTup, m1, m2, mIf, mAnd, mOr, mNot, mFn, mArgs, bmP, bmV, bmT, bmAnd, bmOr, bmNot, sSetM, sDropM, sRetM, sIfM, sRaise, sSet, sSetN, sOwn, sOwnN, sAppend, sAppendN, sFreeze, sForget, sIf, sRet, sRetN, sNext, sPut, sDrop, sAug, sOn, sItem, sItemN, itemPut, sBreak, sCont, hide, Slot.hide, eVar, eC, e1, e2, eArgs, eAnd, eOr, eNot, eIf, eChain, eCall, eCut, partOf, aNil, aCons, asBl, bVal, bTruth, bAnd, bOr, bNot, bYes, truth, vAdd_int, vAdd_lst, vAdd_tup, vSub, vMul_int, vDiv_int, vMod_int, vPow18, vPow12, vPow11, vPow9, vPow6, vNeg, vLt, vLe, vGt, vGe, vEq, vNe, eqR_int, eqR_bl, eqR_str, vIsi, Val.isOb, vTup, vLst, vLen_lst, vLen_tup, vInt, vIs, vIsNot, vIx_lst, vIx_tup, vIx_dct, vListOf, vTupOf, vIpAdd, vMax2, vMax3, vMin2, Val.ty, Ty.sub, noLst_int, noLst_bl, noLst_str, noLst_non, noLst_tup, noLsts_nil, noLsts_cons, noLsts_ints, pName, pTup, pTupL, putAll, iSeq, itemsOf, iRange1, iRange2, DR.res, Res.ofOpt_some, Res.ofOpt_none, Res.bind_ok, Res.bind_exc, Res.bind_bad, Res.nx_ok, Res.flow_ok, Res.flow_bad, Flow.bind_next, Flow.bind_ret, Flow.bind_brk, Flow.bind_cont, Flow.bind_bad, Ok_next, Ok_ret, Ok_brk, Ok_cont, Ok_bind, Ok_cond, Ok_ite, Ok_ofOpt, flow_ite, bind_ite, nx_ite', flow_cond, bind_cond, cond_andV, cond_orV, cond_and, cond_or, atI_nat, atI_0, atI_1, atI_lit, startE, List.map_cons, List.map_nil, List.length_cons, List.length_nil, List.getElem?_cons_zero, List.getElem?_cons_succ, List.set_cons_zero, List.set_cons_succ, List.set_nil, List.replicate, List.append_nil, List.cons_append, List.nil_append, Nat.sub_self, Nat.reduceAdd, Nat.reduceSub, Nat.reduceLT, Nat.reduceLeDiff, Nat.reduceEqDiff, Int.reduceLE, Int.reduceLT, Int.reduceToNat, Int.reducePow, Int.reduceMul, Int.reduceAdd, Int.reduceSub, Int.reduceNeg, Int.cast_ofNat_Int, if_true, if_false, ↓reduceIte, reduceCtorEq, beq_self_eq_true, and_true, true_and, decide_eq_true_eq, decide_eq_false_iff_not, Bool.not_eq_true', Bool.not_eq_false', Bool.and_true, Bool.true_and, Bool.or_true, Bool.and_false, Bool.or_false, Bool.false_or, Bool.true_or, Bool.false_and, Bool.not_true, Bool.not_false, beq_iff_eq, forall_const, false_implies, Option.map_some, decide_true, decide_false, cond_true, cond_false, $ts,*])
theorem bv_mod (x : Nat) : Val.int ((x % 2 : Nat) : Int) = bv (x % 2 == 1) := by
  have : x % 2 = 0 ∨ x % 2 = 1 := by omega
  rcases this with h | h <;> rw [h] <;> rfl
def cbits (m n : Nat) : List Bool := (List.range m).map fun k => n / 2 ^ k % 2 == 1
theorem cbits_len (m n : Nat) : (cbits m n).length = m := by unfold cbits; rw [List.length_map, List.length_range]
theorem cbits_get (m n k : Nat) (h : k < m) : (cbits m n)[k]'(by rw [cbits_len]; exact h) = (n / 2 ^ k % 2 == 1) := by unfold cbits; simp
def lats (c : Circ) : Nat := (latches c.cells).length
def ends (c : Circ) : List Nat := c.outs ++ (latches c.cells).map fun x => x.ins.headD 0
def valsL (c : Circ) (ov : Nat → Bool → Bool) (n : Nat) : List Bool := runS ov c.cells (Lib.inVals ov ((cbits (c.n + lats c) n).take c.n)) ((cbits (c.n + lats c) n).drop c.n)
def ansL (c : Circ) (ov : Nat → Bool → Bool) (n : Nat) : List Bool := (ends c).map fun i => (valsL c ov n).getD i false
theorem eqvs_bits : ∀ (as bs : List Bool), eqvs (as.map bv) (bs.map bv) = decide (as = bs)
  | [], [] => rfl
  | [], _ :: _ => rfl
  | _ :: _, [] => rfl
  | a :: as, b :: bs => by
    show ((b2i a == b2i b) && eqvs (as.map bv) (bs.map bv)) = _
    rw [eqvs_bits as bs]
    have : (b2i a == b2i b) = decide (a = b) := by cases a <;> cases b <;> rfl
    rw [this, Bool.eq_iff_iff]
    simp
theorem eqR_bits (as bs : List Bool) : eqR (.lst (as.map bv)) (.lst (bs.map bv)) = .ok (decide (as = bs)) := by
  unfold eqR
  have d1 : (Val.lst (as.map bv)).isData = true := datas_map as fun _ _ => rfl
  have d2 : (Val.lst (bs.map bv)).isData = true := datas_map bs fun _ _ => rfl
  have e1 : (Val.lst (as.map bv)).depth ≤ 64 := by
    have : Val.depths (as.map bv) ≤ 0 := depths_map as fun _ _ => Nat.le_refl _
    show Val.depths (as.map bv) + 1 ≤ 64
    omega
  have e2 : (Val.lst (bs.map bv)).depth ≤ 64 := by
    have : Val.depths (bs.map bv) ≤ 0 := depths_map bs fun _ _ => Nat.le_refl _
    show Val.depths (bs.map bv) + 1 ≤ 64
    omega
  rw [if_neg (by simp [scal2, Val.isFlat]), if_pos (by simp [d1, d2, e1, e2])]
  show Res.ok (eqvs (as.map bv) (bs.map bv)) = _
  rw [eqvs_bits]
namespace Lib
open PySem
theorem bit_count_ok (c : Circ) (hl : c.cells.length ≤ 1000) : f_bit_count [c.v] = .ret (.int (c.n + lats c : Nat)) := by
  have h := latch_cells_ok c (by omega)
  have k0 : vIx c.v (.int 0) = .ok (.int c.n) := rfl
  refine defn_ret rfl ?_
  unfold m_bit_count
  simp! [k0, h, List.length_map]
  rfl
theorem case_count_ok (c : Circ) (hl : c.cells.length ≤ 1000) (hn : c.n ≤ 1000) : f_case_count [c.v] = .ret (.int (2 ^ (c.n + lats c) : Nat)) := by
  have h := bit_count_ok c hl
  have hl2 : lats c ≤ c.cells.length := List.length_filter_le _ _
  have p : powOk 1 ((c.n + lats c : Nat) : Int) = true := big_iff.mpr ⟨by omega, by omega, by decide⟩
  refine defn_ret rfl ?_
  unfold m_case_count
  simp! [h, vShl, p]
  rw [Int.one_mul, Int.toNat_natCast]
  congr 1
theorem case_bits_ok (c : Circ) (hl : c.cells.length ≤ 1000) (hn : c.n ≤ 1000) (n : Nat) (h : n < 2 ^ (c.n + lats c)) : f_case_bits [c.v, .int n] = .ret (.tup [.lst (((cbits (c.n + lats c) n).take c.n).map bv), .lst (((cbits (c.n + lats c) n).drop c.n).map bv)]) := by
  have h1 := case_count_ok c hl hn
  have h2 := bit_count_ok c hl
  have hl2 : lats c ≤ c.cells.length := List.length_filter_le _ _
  have k0 : vIx c.v (.int 0) = .ok (.int c.n) := rfl
  refine defn_ret rfl ?_
  have hc : (n : Int) < ((2 ^ (c.n + lats c) : Nat) : Int) := by exact_mod_cast h
  have hz : (0 : Int) ≤ n := by omega
  unfold m_case_bits
  simp! [h1, decide_eq_true hz, decide_eq_true hc]
  refine Then.mk ?_
  unfold m_case_bits_1
  rw [Ok_seq]
  have e : e_case_bits_1 [.sh c.v, .sh (.int n), .un, .un] = .ok (.lst ((cbits (c.n + lats c) n).map bv)) := by
    unfold e_case_bits_1
    rw [eComp_all (fun k : Nat => Val.int (0 + (k : Int))) (fun k => bv (n / 2 ^ k % 2 == 1)) (List.range (c.n + lats c)) ?_ (by simp; omega)]
    · unfold cbits; rw [List.map_map]; rfl
    · intro k hk
      refine ⟨_, rfl, ?_⟩
      rw [Int.zero_add]
      have c2 : ((n : Int) / 2 ^ (Int.toNat (k : Int))) % 2 = ((n / 2 ^ k % 2 : Nat) : Int) := by
        rw [Int.toNat_natCast]; push_cast; rfl
      have hk0 : (0 : Int) ≤ k := by omega
      simp! [wipeE, vShr, hk0, vAnd1, c2]
      rw [bv_mod]
    · refine (range1_ok (n := c.n + lats c) (by simp! [h2]) (by omega)).trans ?_
      rfl
  simp! [e]
  refine Then.mk ?_
  unfold m_case_bits_2
  have c1 : vCut (.lst ((cbits (c.n + lats c) n).map bv)) none (some (c.n : Int)) = .ok (.lst (((cbits (c.n + lats c) n).take c.n).map bv)) := by
    show Res.ok (Val.lst (cut _ none (some (c.n : Int)))) = _
    rw [cut_map, cut_take _ c.n (by rw [cbits_len]; omega)]
  have c2 : vCut (.lst ((cbits (c.n + lats c) n).map bv)) (some (c.n : Int)) none = .ok (.lst (((cbits (c.n + lats c) n).drop c.n).map bv)) := by
    show Res.ok (Val.lst (cut _ (some (c.n : Int)) none)) = _
    rw [cut_map, cut_drop]
  simp! [k0, c1, c2]
theorem defn_exc {k n : Nat} {m : ST} {xs : List Val} {q : Exn} (hk : xs.length = k) (h : ∃ e, m (startE n xs) = .exc q e) : defn k n m xs = .exc q := by
  obtain ⟨e, h⟩ := h
  unfold defn
  rw [if_pos hk, h]
theorem in01 (v : Int) : vNotIn (.int v) (.tup [.int 0, .int 1]) = .ok (.bl (!(v == 0 || v == 1))) := by
  show rNot (Res.ok (Val.bl (((0 : Int) == v) || (((1 : Int) == v) || false)))) = _
  rw [Bool.or_false, show ((0 : Int) == v) = (v == 0) from Bool.beq_comm, show ((1 : Int) == v) = (v == 1) from Bool.beq_comm]
  rfl
theorem check_flaw_ok (c : Circ) (net : Nat) (b : Bool) (h : net < c.n + c.cells.length) : f_check_flaw [c.v, .tup [.int net, bv b]] = .ret .non := by
  have k0 : vIx c.v (.int 0) = .ok (.int c.n) := rfl
  have k1 : vIx c.v (.int 1) = .ok (.tup (c.cells.map Cell.v)) := rfl
  have n1 := in01 (b2i b)
  have n2 : (!(b2i b == 0 || b2i b == 1)) = false := by cases b <;> rfl
  rw [n2] at n1
  have n1' : vNotIn (bv b) (.tup [.int 0, .int 1]) = .ok (.bl false) := n1
  have hz : (0 : Int) ≤ net := by omega
  have hc : (net : Int) < (c.n : Int) + (c.cells.length : Int) := by omega
  refine defn_ret rfl ?_
  unfold m_check_flaw
  simp! [k0, k1, List.length_map, decide_eq_true hz, decide_eq_true hc, n1']
theorem ends_lt (c : Circ) (hg : c.Good) : ∀ i ∈ ends c, i < c.n + c.cells.length := by
  intro i hi
  unfold ends at hi
  rw [List.mem_append, List.mem_map] at hi
  rcases hi with h | ⟨x, hx, rfl⟩
  · exact hg.outs i h
  · obtain ⟨j, hj, hlt⟩ := lat_in hg.cells x hx
    rw [hj]
    exact hlt
theorem vals_len (c : Circ) (ov : Nat → Bool → Bool) (n : Nat) : (valsL c ov n).length = c.n + c.cells.length := by
  unfold valsL
  rw [runS_len, inVals_len, List.length_take, cbits_len]
  omega
theorem ends_len (c : Circ) (hg : c.Good) : (ends c).length ≤ 10 := by
  unfold ends
  rw [List.length_append, List.length_map]
  have := hg.o6; have := hg.l4; have := hg.lat
  omega
theorem answers_ok (c : Circ) (hg : c.Good) (kvs : List (Key × Val)) (ov : Nat → Bool → Bool) (hk : Stk kvs ov) (n : Nat) (h : n < 2 ^ (c.n + lats c)) : f_answers [c.v, .int n, .dct kvs] = .ret (.lst ((ansL c ov n).map bv)) := by
  have b1 := hg.n6
  have b2 := hg.c40
  have b3 := hg.o6
  have b4 := hg.l4
  have b5 := hg.lat
  have h1 := case_bits_ok c (by omega) (by omega) n h
  have h2 := settled_ok c kvs ov hk ((cbits (c.n + lats c) n).take c.n) ((cbits (c.n + lats c) n).drop c.n) hg.cells (by rw [List.length_take, cbits_len]; omega) (by rw [List.length_drop, cbits_len]; unfold lats; omega) (by omega)
  have h2' : f_settled_values [c.v, .lst (((cbits (c.n + lats c) n).take c.n).map bv), .lst (((cbits (c.n + lats c) n).drop c.n).map bv), .dct kvs] = .ret (.lst ((valsL c ov n).map bv)) := h2
  have h3 := latch_cells_ok c (by omega)
  have k2 : vIx c.v (.int 2) = .ok (.tup (c.outs.map iv)) := rfl
  have vl := vals_len c ov n
  refine defn_ret rfl ?_
  unfold m_answers
  simp! [h1]
  refine Then.mk ?_; unfold m_answers_1; simp! [h2']
  refine Then.mk ?_
  unfold m_answers_2
  rw [Ok_seq]
  have e1 : e_answers_1 [.sh c.v, .sh (.int n), .sh (.dct kvs), .sh (.lst ((valsL c ov n).map bv)), .un, .sh (.lst (((cbits (c.n + lats c) n).take c.n).map bv)), .sh (.lst (((cbits (c.n + lats c) n).drop c.n).map bv)), .un, .un] = .ok (.lst (((latches c.cells).map fun x => x.ins.headD 0).map iv)) := by
    unfold e_answers_1
    rw [eComp_all Cell.v (fun x => iv (x.ins.headD 0)) (latches c.cells) (by simp! [h3]) (by omega)]
    · rw [List.map_map]; rfl
    · intro x hx
      refine ⟨_, rfl, ?_⟩
      obtain ⟨j, hj, hlt⟩ := lat_in hg.cells x hx
      show (vIx x.v (.int 1)).bind (fun y => vIx y (.int 0)) = _
      rw [cell_1, hj]
      rfl
  have ap : c.outs.map iv ++ ((latches c.cells).map fun x => x.ins.headD 0).map iv = (ends c).map iv := by unfold ends; rw [List.map_append]
  simp! [k2, e1, List.length_map, ap]
  refine ⟨by omega, ?_⟩
  refine Then.mk ?_
  unfold m_answers_3
  have e2 : e_answers_2 [.sh c.v, .sh (.int n), .sh (.dct kvs), .sh (.lst ((valsL c ov n).map bv)), .sh (.lst ((ends c).map iv)), .sh (.lst (((cbits (c.n + lats c) n).take c.n).map bv)), .sh (.lst (((cbits (c.n + lats c) n).drop c.n).map bv)), .un, .un] = .ok (.lst ((ansL c ov n).map bv)) := by
    unfold e_answers_2
    rw [eComp_all iv (fun i => bv ((valsL c ov n).getD i false)) (ends c) rfl (by have := ends_len c hg; omega)]
    · unfold ansL; rw [List.map_map]; rfl
    · intro i hi
      refine ⟨_, rfl, ?_⟩
      have := getD_bv (valsL c ov n) i (by rw [vl]; exact ends_lt c hg i hi)
      show Res.ofOpt (atI _ (i : Int)) = _
      rw [atI_nat, this]; rfl
  simp! [e2]
def stuckAt (net : Nat) (v : Bool) : Nat → Bool → Bool := fun n b => if n = net then v else b
theorem stk_at (net : Nat) (v : Bool) : Stk [(.inl (net : Int), bv v)] (stuckAt net v) := by
  intro n b
  unfold getD iv keyOfV getV stuckAt
  by_cases h : n = net
  · subst h
    simp
  · have : ¬ (Sum.inl (net : Int) : Key) = Sum.inl (n : Int) := fun q => h (by injection q with q; omega)
    simp [this, h]
theorem shows_ok (c : Circ) (hg : c.Good) (net : Nat) (v : Bool) (hn : net < c.n + c.cells.length) (n : Nat) (h : n < 2 ^ (c.n + lats c)) : f_shows [c.v, .tup [.int net, bv v], .int n] = .ret (.bl (!decide (ansL c (stuckAt net v) n = ansL c (fun _ b => b) n))) := by
  have h1 := check_flaw_ok c net v hn
  have h2 := answers_ok c hg _ _ (stk_at net v) n h
  have h3 := answers_ok c hg [] _ stk_nil n h
  have h4 := eqR_bits (ansL c (stuckAt net v) n) (ansL c (fun _ b => b) n)
  refine defn_ret rfl ?_
  unfold m_shows
  simp! [h1]
  refine Then.mk ?_
  unfold m_shows_1
  have d : (eDictV [((e2 vIx (eVar 1) (eC (.int 0))), (e2 vIx (eVar 1) (eC (.int 1))))]) [.sh c.v, .sh (.tup [.int net, bv v]), .sh (.int n)] = .ok (.dct [(.inl (net : Int), bv v)]) := rfl
  simp! [d, h2, h3, h4]
theorem divOks (d : Int) (h : 0 < d ∧ d < 1000) : divOk d = true := divOk_iff.mpr (by omega)
def T1 : EX := (eArgs vLst (aCons (eC (.int 1)) (aCons (eC (.int 2)) (aCons (eC (.int 4)) (aCons (eC (.int 8)) (aCons (eC (.int 16)) (aCons (eC (.int 32)) (aCons (eC (.int 64)) aNil))))))))
def T2 : EX := (eArgs vLst (aCons (eC (.int 2)) (aCons (eC (.int 4)) (aCons (eC (.int 8)) (aCons (eC (.int 16)) (aCons (eC (.int 32)) (aCons (eC (.int 64)) (aCons (eC (.int 128)) aNil))))))))
theorem bit_at (a : EX) (env : Env) (n k : Nat) (hk : k < 7) (h1 : env[1]? = some (.sh (.int n))) (ha : a env = .ok (.int k)) :
    (e2 vSub (e2 vDiv (eVar 1) (e2 vIx T1 a)) (e2 vMul (e2 vDiv (eVar 1) (e2 vIx T2 a)) (eC (.int 2)))) env = .ok (bv (n / 2 ^ k % 2 == 1)) := by
  have v1 : (eVar 1) env = .ok (.int n) := by unfold eVar; rw [h1]
  have key : ∀ d e : Int, atI [Val.int 1, .int 2, .int 4, .int 8, .int 16, .int 32, .int 64] k = some (.int d) → atI [Val.int 2, .int 4, .int 8, .int 16, .int 32, .int 64, .int 128] k = some (.int e) → 0 < d ∧ d < 1000 → 0 < e ∧ e < 1000 → (n : Int) / d - (n : Int) / e * 2 = ((n / 2 ^ k % 2 : Nat) : Int) →
      (e2 vSub (e2 vDiv (eVar 1) (e2 vIx T1 a)) (e2 vMul (e2 vDiv (eVar 1) (e2 vIx T2 a)) (eC (.int 2)))) env = .ok (bv (n / 2 ^ k % 2 == 1)) := by
    intro d e g1 g2 g3 g4 g5
    have t1 : T1 env = .ok (.lst [Val.int 1, .int 2, .int 4, .int 8, .int 16, .int 32, .int 64]) := rfl
    have t2 : T2 env = .ok (.lst [Val.int 2, .int 4, .int 8, .int 16, .int 32, .int 64, .int 128]) := rfl
    have m2 : ∀ x : Int, mulOk x 2 = true := fun x => mulOk_r _ _ (by omega)
    unfold e2
    rw [v1, t1, t2, ha]
    simp only [Res.bind_ok, eC, vIx_lst, g1, g2, Res.ofOpt_some, vDiv_int, divOks d g3, divOks e g4, if_true, vMul_int, m2, vSub, g5]
    rw [bv_mod]
  have : k = 0 ∨ k = 1 ∨ k = 2 ∨ k = 3 ∨ k = 4 ∨ k = 5 ∨ k = 6 := by omega
  rcases this with rfl | rfl | rfl | rfl | rfl | rfl | rfl
  · exact key 1 2 rfl rfl (by omega) (by omega) (by simp only [Nat.pow_zero]; omega)
  · exact key 2 4 rfl rfl (by omega) (by omega) (by simp only [Nat.reducePow]; omega)
  · exact key 4 8 rfl rfl (by omega) (by omega) (by simp only [Nat.reducePow]; omega)
  · exact key 8 16 rfl rfl (by omega) (by omega) (by simp only [Nat.reducePow]; omega)
  · exact key 16 32 rfl rfl (by omega) (by omega) (by simp only [Nat.reducePow]; omega)
  · exact key 32 64 rfl rfl (by omega) (by omega) (by simp only [Nat.reducePow]; omega)
  · exact key 64 128 rfl rfl (by omega) (by omega) (by simp only [Nat.reducePow]; omega)
def ovI (net : Int) (v : Bool) : Nat → Bool → Bool := fun n b => if (n : Int) = net then v else b
theorem ovI_nat (net : Nat) (v : Bool) : ovI net v = stuckAt net v := by
  funext n b
  unfold ovI stuckAt
  by_cases h : n = net
  · subst h; simp
  · rw [if_neg (by omega), if_neg h]
theorem ovI_neg (v : Bool) : ovI (-1) v = fun _ b => b := by
  funext n b
  unfold ovI
  rw [if_neg (by omega)]
abbrev AE (c : Circ) (n : Nat) (net : Int) (v : Bool) (vals : List Bool) (k : Nat) (s6 s7 : Slot) : Env := [.sh c.v, .sh (.int n), .sh (.int net), .sh (bv v), .oL (vals.map bv), .sh (.int k), s6, s7, .un, .un, .un]
theorem set_ov (net : Int) (v : Bool) (vals : List Bool) (b : Bool) (h : (vals.length : Int) = net) : ixNat (vals ++ [b]).length net = some vals.length ∧ (vals ++ [b]).set vals.length v = vals ++ [ovI net v vals.length b] := by
  refine ⟨?_, ?_⟩
  · rw [← h, List.length_append]
    exact ixNat_nat _ _ (by rw [List.length_singleton]; omega)
  · rw [List.set_append_right _ _ (Nat.le_refl _), Nat.sub_self]
    unfold ovI
    rw [if_pos h]
    rfl
def AInv (c : Circ) (n : Nat) (net : Int) (v : Bool) (total : Nat) (cs : List Cell) (env : Env) : Prop := ∃ (m : Nat) (vals : List Bool) (j : Nat) (s6 s7 : Slot), env = AE c n net v vals (c.n + j) s6 s7 ∧ GCells total m cs ∧ vals.length = m ∧ j + (latches cs).length = lats c ∧
  runS (ovI net v) cs vals ((cbits (c.n + lats c) n).drop (c.n + j)) = valsL c (ovI net v) n ∧ m + cs.length ≤ 1000
theorem map_bv_set (vals : List Bool) (i : Nat) (b : Bool) : (vals.map bv).set i (bv b) = (vals.set i b).map bv := by rw [List.map_set]
theorem lanswers_ok (c : Circ) (hg : c.Good) (h7 : c.n + lats c ≤ 7) (net : Int) (v : Bool) (n : Nat) : f__law_answers [c.v, .int n, .int net, bv v] = .ret (.lst ((ansL c (ovI net v) n).map bv)) := by
  have b1 := hg.n6
  have b2 := hg.c40
  have b3 := hg.o6
  have k0 : vIx c.v (.int 0) = .ok (.int c.n) := rfl
  have k1 : vIx c.v (.int 1) = .ok (.tup (c.cells.map Cell.v)) := rfl
  have k2 : vIx c.v (.int 2) = .ok (.tup (c.outs.map iv)) := rfl
  refine defn_ret rfl ?_
  unfold m__law_answers
  simp! []
  refine Then.mk ?_; unfold m__law_answers_1; simp! [k0]
  refine Then.mk ?_
  unfold m__law_answers_2
  simp only [Ok_seq]
  unfold m__law_answers_c_F
  refine Ok_for (xs := rangeL 0 c.n) (range1_ok (by simp! []) (by omega)) ?_
  refine forL_ok _ (fun i env => ∃ s6, i ≤ c.n ∧ env = AE c n net v ((cbits (c.n + lats c) n).take i) c.n s6 .un) _ ⟨.un, Nat.zero_le _, rfl⟩ ?_ ?_
  · rintro i hi env ⟨s6, _, rfl⟩
    rw [range_len] at hi
    rw [range_get, Int.zero_add]
    refine ⟨AE c n net v ((cbits (c.n + lats c) n).take i) c.n (.sh (.int i)) .un, rfl, ?_⟩
    have hb := bit_at (eVar 6) (hide (AE c n net v ((cbits (c.n + lats c) n).take i) c.n (.sh (.int i)) .un)) n i (by omega) rfl rfl
    unfold m__law_answers_c_L sAppend
    show Ok (((e2 vSub (e2 vDiv (eVar 1) (e2 vIx T1 (eVar 6))) (e2 vMul (e2 vDiv (eVar 1) (e2 vIx T2 (eVar 6))) (eC (.int 2)))) (hide (AE c n net v ((cbits (c.n + lats c) n).take i) c.n (.sh (.int i)) .un))).flow _ _) _ _ _ _
    rw [hb, Res.flow_ok, if_pos (by rw [List.length_map, List.length_take, cbits_len]; omega), Ok_next]
    refine ⟨.sh (.int i), by omega, ?_⟩
    have hil : i < (cbits (c.n + lats c) n).length := by rw [cbits_len]; omega
    rw [List.take_add_one, List.getElem?_eq_getElem hil, cbits_get _ _ _ (by omega)]
    unfold AE
    rw [List.map_append]
    rfl
  · rintro env ⟨s6, _, rfl⟩
    rw [range_len]
    refine Then.mk ?_
    unfold m__law_answers_3
    have tl : ((cbits (c.n + lats c) n).take c.n).length = c.n := by rw [List.length_take, cbits_len]; omega
    -- the values of the inputs
    have inp : inVals (ovI net v) ((cbits (c.n + lats c) n).take c.n) = if 0 ≤ net ∧ net < c.n then ((cbits (c.n + lats c) n).take c.n).set net.toNat v else (cbits (c.n + lats c) n).take c.n := by
      unfold inVals
      apply List.ext_getElem
      · split <;> simp
      · intro i h1 h2
        simp only [List.getElem_map, List.getElem_zipIdx, Nat.zero_add]
        unfold ovI
        have hi : i < c.n := by rw [List.length_map, List.length_zipIdx, tl] at h1; exact h1
        by_cases hin : 0 ≤ net ∧ net < c.n
        · simp only [if_pos hin]
          rw [List.getElem_set]
          by_cases hi2 : (i : Int) = net
          · rw [if_pos hi2, if_pos (by omega)]
          · rw [if_neg hi2, if_neg (by omega)]
        · simp only [if_neg hin]
          rw [if_neg (by omega)]
    have mid : ∀ {N : Env → Prop} {R : Val → Prop} {B T : Env → Prop}, (∀ s6, N (AE c n net v (inVals (ovI net v) ((cbits (c.n + lats c) n).take c.n)) c.n s6 .un)) → Ok ((sIf (bAnd (bVal (e2 vGe (eVar 2) (eC (.int 0)))) (bVal (e2 vLt (eVar 2) (eVar 5)))) (sOn 4 (sItem 4 (eVar 2) (eVar 3))) sNext) (AE c n net v ((cbits (c.n + lats c) n).take c.n) c.n s6 .un)) N R B T := by
      intro N R B T hN
      rw [inp] at hN
      simp! [AE]
      refine ⟨fun h => ?_, fun h => ?_⟩
      · have h' : 0 ≤ net ∧ net < c.n := by simpa using h
        have ix : ixNat ((cbits (c.n + lats c) n).take c.n).length net = some net.toNat := by
          rw [tl]
          have := ixNat_nat c.n net.toNat (by omega)
          rwa [Int.toNat_of_nonneg h'.1] at this
        rw [if_pos h'] at hN
        simp only [List.length_map, ix]
        rw [Ok_next, map_bv_set]
        exact hN s6
      · have h' : ¬ (0 ≤ net ∧ net < c.n) := by
          intro q
          simp at h
          have := h q.1
          omega
        rw [if_neg h'] at hN
        exact hN s6
    rw [Ok_seq]
    refine mid fun s6 => Then.mk ?_
    unfold m__law_answers_4
    rw [Ok_seq]
    unfold m__law_answers_e_F
    refine Ok_for (xs := c.cells.map Cell.v) (by simp! [AE, k1]) ?_
    refine forL_ind Cell.v (AInv c n net v (c.n + c.cells.length)) ?_ ?_ c.cells _ ⟨c.n, _, 0, s6, .un, rfl, hg.cells, by rw [inVals_len, tl], by unfold lats; omega, rfl, by omega⟩
    · rintro x cs env ⟨m, vals, j, s6, s7, rfl, hgc, hv, hj, hr, hb⟩
      refine ⟨AE c n net v vals (c.n + j) s6 (.sh x.v), rfl, ?_⟩
      rw [List.length_cons] at hb
      cases hgc with
      | cons g gs =>
        have h0 : vEq (.str x.k) (.str "latch") = .ok (.bl (decide (x.k = kLatch))) := by unfold vEq; rw [eq_latch]; rfl
        have hc0 : (e2 vEq (e2 vIx (eVar 7) (eC (.int 0))) (eC (.str "latch"))) (AE c n net v vals (c.n + j) s6 (.sh x.v)) = .ok (.bl (decide (x.k = kLatch))) := by
          show ((vIx x.v (.int 0)).bind fun a => (Res.ok (Val.str "latch")).bind fun b => vEq a b) = _
          rw [cell_0]
          exact h0
        -- the end of a turn: the last value is replaced
        have last : ∀ {R : Val → Prop} {B : Env → Prop} (b : Bool) (j' : Nat), j' + (latches cs).length = lats c → runS (ovI net v) cs (vals ++ [ovI net v m b]) ((cbits (c.n + lats c) n).drop (c.n + j')) = valsL c (ovI net v) n →
            Then m__law_answers_e_1 (AInv c n net v (c.n + c.cells.length) cs) R B (AInv c n net v (c.n + c.cells.length) cs) (AE c n net v (vals ++ [b]) (c.n + j') s6 (.sh x.v)) := by
          intro R B b j' q1 q2
          refine Then.mk ?_
          unfold m__law_answers_e_1
          have ho : vIx x.v (.int 2) = .ok (.int m) := by rw [cell_2, g.out]; rfl
          simp! [AE, ho]
          refine ⟨fun h => ?_, fun h => ?_⟩
          · obtain ⟨e1, e2⟩ := set_ov net v vals b (by rw [hv]; exact h)
            simp only [List.length_map, e1]
            rw [Ok_next, map_bv_set, e2, hv]
            exact ⟨m + 1, _, j', s6, .sh x.v, rfl, gs, by rw [List.length_append, hv]; rfl, q1, q2, by omega⟩
          · have hne : ¬ (m : Int) = net := by simpa using h
            have e2 : ovI net v m b = b := if_neg hne
            rw [e2] at q2
            exact ⟨m + 1, _, j', s6, .sh x.v, rfl, gs, by rw [List.length_append, hv]; rfl, q1, q2, by omega⟩
        unfold m__law_answers_e_L
        rw [Ok_seq]
        unfold sIf bVal
        show Ok ((((e2 vEq (e2 vIx (eVar 7) (eC (.int 0))) (eC (.str "latch"))) (AE c n net v vals (c.n + j) s6 (.sh x.v))).bind _).flow _ _) _ _ _ _
        rw [hc0]
        by_cases hx : x.k = kLatch
        · have hlx : latches (x :: cs) = x :: latches cs := by unfold latches; rw [List.filter_cons, if_pos (by simp [hx])]
          rw [hlx, List.length_cons] at hj
          have hjm : c.n + j < 7 := by omega
          have hbt := bit_at (eVar 5) (hide (AE c n net v vals (c.n + j) s6 (.sh x.v))) n (c.n + j) hjm rfl rfl
          rw [decide_eq_true hx]
          simp only [Res.bind_ok, Res.flow_ok, cond_true, Ok_seq]
          unfold sAppend
          show Ok (((e2 vSub (e2 vDiv (eVar 1) (e2 vIx T1 (eVar 5))) (e2 vMul (e2 vDiv (eVar 1) (e2 vIx T2 (eVar 5))) (eC (.int 2)))) (hide (AE c n net v vals (c.n + j) s6 (.sh x.v)))).flow _ _) _ _ _ _
          rw [hbt, Res.flow_ok, if_pos (by rw [List.length_map]; omega), Ok_next]
          refine Then.mk ?_
          unfold m__law_answers_ea_1
          have em : (vals.map bv ++ [bv (n / 2 ^ (c.n + j) % 2 == 1)]) = (vals ++ [n / 2 ^ (c.n + j) % 2 == 1]).map bv := by rw [List.map_append]; rfl
          simp! [em, AE]
          refine last (n / 2 ^ (c.n + j) % 2 == 1) (j + 1) (by omega) ?_
          rw [← hr]
          conv => rhs; unfold runS
          rw [if_pos hx]
          have hjl : c.n + j < (cbits (c.n + lats c) n).length := by rw [cbits_len]; omega
          rw [List.drop_eq_getElem_cons hjl, cbits_get _ _ _ (by omega), g.out]
          rfl
        · have hlx : latches (x :: cs) = latches cs := by unfold latches; rw [List.filter_cons, if_neg (by simp [hx])]
          rw [hlx] at hj
          have hkx : x.k ∈ plainKinds := by rcases g.kind with h | h; exact absurd h hx; exact h
          have ee : e__law_answers_1 (AE c n net v vals (c.n + j) s6 (.sh x.v)) = .ok (.lst ((x.ins.map fun i => vals.getD i false).map bv)) := by
            unfold e__law_answers_1
            rw [eComp_all iv (fun i => bv (vals.getD i false)) x.ins rfl (by rw [g.ar]; have := arity3 x.k; omega)]
            · rw [List.map_map]; rfl
            · intro i hi
              refine ⟨_, rfl, ?_⟩
              have := getD_bv vals i (by rw [hv]; exact g.lt hx i hi)
              show Res.ofOpt (atI (vals.map bv) (i : Int)) = _
              rw [atI_nat, this]; rfl
          have cv := lvalue_ok x.k hkx (x.ins.map fun i => vals.getD i false)
          rw [decide_eq_false hx]
          simp only [Res.bind_ok, Res.flow_ok, cond_false]
          have call : (eCall f__law_value (aCons (e2 vIx (eVar 7) (eC (.int 0))) (aCons e__law_answers_1 aNil))) (AE c n net v vals (c.n + j) s6 (.sh x.v)) = .ok (bv (cval x.k (x.ins.map fun i => vals.getD i false))) := by
            unfold eCall aCons aNil
            rw [ee]
            show (((vIx x.v (.int 0)).bind fun a => _).bind _) = _
            rw [cell_0]
            simp only [Res.bind_ok, cv]
            rfl
          unfold sAppendN
          show Ok (((eCall f__law_value (aCons (e2 vIx (eVar 7) (eC (.int 0))) (aCons e__law_answers_1 aNil))) (AE c n net v vals (c.n + j) s6 (.sh x.v))).flow _ _) _ _ _ _
          rw [call, Res.flow_ok, if_pos ⟨by rw [List.length_map]; omega, rfl⟩, Ok_next]
          have em : ∀ b : Bool, (vals.map bv ++ [bv b]) = (vals ++ [b]).map bv := fun b => by rw [List.map_append]; rfl
          rw [em]
          refine last _ j (by omega) ?_
          rw [← hr]
          conv => rhs; unfold runS
          rw [if_neg hx, g.out]
    · rintro env ⟨m, vals, j, s6, s7, rfl, hgc, hv, hj, hr, hb⟩
      have hr : vals = valsL c (ovI net v) n := hr
      have vl := vals_len c (ovI net v) n
      subst hr
      refine Then.mk ?_
      unfold m__law_answers_5
      simp! [AE]
      refine Then.mk ?_
      unfold m__law_answers_6
      rw [Ok_seq]
      have e1 : ∀ t6 t7 : Slot, e__law_answers_2 [.sh c.v, .sh (.int n), .sh (.int net), .sh (bv v), .sh (.lst ((valsL c (ovI net v) n).map bv)), .sh (.int ((c.n + j : Nat) : Int)), t6, t7, .un, .un, .un] = .ok (.lst (((latches c.cells).map fun x => x.ins.headD 0).map iv)) := by
        intro t6 t7
        unfold e__law_answers_2
        rw [eComp_ok Cell.v (fun c => decide (c.k = kLatch)) (fun x => iv (x.ins.headD 0)) c.cells (by simp! [k1]) (by omega)]
        · unfold latches; rw [List.map_map]; rfl
        · intro x hx
          refine ⟨_, rfl, ?_, fun hk => ?_⟩
          · have h : vEq (.str x.k) (.str "latch") = .ok (.bl (decide (x.k = kLatch))) := by unfold vEq; rw [eq_latch]; rfl
            unfold bVal e2
            show ((vIx x.v (.int 0)).bind fun x => (Res.ok (Val.str "latch")).bind fun y => vEq x y).bind _ = _
            rw [cell_0]
            simp only [Res.bind_ok, h]
          · obtain ⟨i, hi, hlt⟩ := lat_in hg.cells x (by unfold latches; rw [List.mem_filter]; exact ⟨hx, hk⟩)
            show (vIx x.v (.int 1)).bind (fun y => vIx y (.int 0)) = _
            rw [cell_1, hi]
            rfl
      have ap : c.outs.map iv ++ ((latches c.cells).map fun x => x.ins.headD 0).map iv = (ends c).map iv := by unfold ends; rw [List.map_append]
      have ll : (latches c.cells).length ≤ 40 := Nat.le_trans (List.length_filter_le _ _) b2
      simp! [k2, e1, List.length_map, ap]
      refine ⟨by omega, ?_⟩
      refine Then.mk ?_
      unfold m__law_answers_7
      have e2 : ∀ t6 t7 : Slot, e__law_answers_3 [.sh c.v, .sh (.int n), .sh (.int net), .sh (bv v), .sh (.lst ((valsL c (ovI net v) n).map bv)), .sh (.int ((c.n + j : Nat) : Int)), t6, t7, .sh (.lst ((ends c).map iv)), .un, .un] = .ok (.lst ((ansL c (ovI net v) n).map bv)) := by
        intro t6 t7
        unfold e__law_answers_3
        rw [eComp_all iv (fun i => bv ((valsL c (ovI net v) n).getD i false)) (ends c) rfl (by have := ends_len c hg; omega)]
        · unfold ansL; rw [List.map_map]; rfl
        · intro i hi
          refine ⟨_, rfl, ?_⟩
          have := getD_bv (valsL c (ovI net v) n) i (by rw [vl]; exact ends_lt c hg i hi)
          show Res.ofOpt (atI _ (i : Int)) = _
          rw [atI_nat, this]; rfl
      simp! [e2]
theorem cases_ok (c : Circ) (hg : c.Good) : f__law_cases [c.v] = .ret (.int (2 ^ (c.n + lats c) : Nat)) := by
  have b1 := hg.n6
  have b2 := hg.c40
  have k0 : vIx c.v (.int 0) = .ok (.int c.n) := rfl
  have hl2 : lats c ≤ c.cells.length := List.length_filter_le _ _
  refine defn_ret rfl ?_
  unfold m__law_cases
  simp! []
  refine Then.mk ?_
  unfold m__law_cases_1
  rw [Ok_seq]
  unfold m__law_cases_b_F
  have e : e__law_cases_1 [.sh c.v, .sh (.int 1), .un, .un] = .ok (.lst ((latches c.cells).map fun _ => Val.int 1)) := by
    unfold e__law_cases_1
    rw [eComp_ok Cell.v (fun c => decide (c.k = kLatch)) (fun x => Val.int 1) c.cells rfl (by omega)]
    · rfl
    · intro x hx
      refine ⟨_, rfl, ?_, fun _ => rfl⟩
      have h : vEq (.str x.k) (.str "latch") = .ok (.bl (decide (x.k = kLatch))) := by unfold vEq; rw [eq_latch]; rfl
      unfold bVal e2
      show ((vIx x.v (.int 0)).bind fun x => (Res.ok (Val.str "latch")).bind fun y => vEq x y).bind _ = _
      rw [cell_0]
      simp only [Res.bind_ok, h]
  refine Ok_for (xs := rangeL 0 (c.n + lats c)) (range1_ok (by simp! [k0, e, List.length_map]; rfl) (by omega)) ?_
  refine forL_ok _ (fun i env => ∃ s2 s3, env = [.sh c.v, .sh (.int (2 ^ i : Nat)), s2, s3]) _ ⟨_, _, rfl⟩ ?_ ?_
  · rintro i hi env ⟨s2, s3, rfl⟩
    rw [range_get]
    refine ⟨_, rfl, ?_⟩
    unfold m__law_cases_b_L
    have m2 : ∀ x : Int, mulOk x 2 = true := fun x => mulOk_r _ _ (by omega)
    have cc : ((2 ^ i : Nat) : Int) * 2 = ((2 ^ (i + 1) : Nat) : Int) := by rw [Nat.pow_succ]; push_cast; rfl
    simp! [m2, cc]
    exact ⟨_, _, rfl⟩
  · rintro env ⟨s2, s3, rfl⟩
    rw [range_len]
    refine Then.mk ?_; unfold m__law_cases_2; simp! []
end Lib
end Vm
end
noncomputable section
namespace Vm
namespace Lib
open PySem
def m_check_size : ST := (sIf (bVal (e2 vGt (eCall f_case_count (aCons (eVar 0) aNil)) (eC (.int 64)))) (sRaise ⟨"TooLarge", []⟩) sNext)
def f_check_size : Fn := defn 1 1 m_check_size
def e_all_flaws_1 : EX := (eComp2 (iRange1 (e2 vAdd (e2 vIx (eVar 0) (eC (.int 0))) (eArgs vLen (aCons (e2 vIx (eVar 0) (eC (.int 1))) aNil)))) [1, 2] (pName 1) bYes (iSeq (eArgs vTup (aCons (eC (.int 0)) (aCons (eC (.int 1)) aNil)))) [2] (pName 2) bYes (eArgs vTup (aCons (eVar 1) (aCons (eVar 2) aNil))))
def m_all_flaws : ST := (sRet e_all_flaws_1)
def f_all_flaws : Fn := defn 1 3 m_all_flaws
def m_first_case_c_L : ST := (sIf (bTruth (eCall f_shows (aCons (eVar 0) (aCons (eVar 1) (aCons (eVar 2) aNil))))) (sRet (eVar 2)) sNext)
def m_first_case_c_F : ST := (sFor (iRange1 (eCall f_case_count (aCons (eVar 0) aNil))) (pName 2) m_first_case_c_L)
def m_first_case_3 : ST := (sRet (eC .non))
def m_first_case_2 : ST := (sSeq m_first_case_c_F
    m_first_case_3)
def m_first_case_1 : ST := (sSeq (sDrop (eCall f_check_flaw (aCons (eVar 0) (aCons (eVar 1) aNil))))
    m_first_case_2)
def m_first_case : ST := (sSeq (sDrop (eCall f_check_size (aCons (eVar 0) aNil)))
    m_first_case_1)
def f_first_case : Fn := defn 2 3 m_first_case
def e_hidden_flaws_1 : EX := (eComp (iSeq (eCall f_all_flaws (aCons (eVar 0) aNil))) [1] (pName 1) (bVal (e2 vIs (eCall f_first_case (aCons (eVar 0) (aCons (eVar 1) aNil))) (eC .non))) (eVar 1))
def m_hidden_flaws_1 : ST := (sRet e_hidden_flaws_1)
def m_hidden_flaws : ST := (sSeq (sDrop (eCall f_check_size (aCons (eVar 0) aNil)))
    m_hidden_flaws_1)
def f_hidden_flaws : Fn := defn 1 2 m_hidden_flaws
end Lib
end Vm
end
noncomputable section
namespace Vm
/-- two clauses, each over a list -/
theorem compL2_all {α β : Type} {put put1 : Put} {it1 : EI} {own1 : List Nat} {el : EX} {env : Env} (enc : α → Val) (enc1 : α → β → Val) (bs : α → List β) (g : α → β → Val) : ∀ (xs : List α), (∀ x ∈ xs, ∃ e, put (enc x) env = .ok e ∧ it1 e = .ok ((bs x).map (enc1 x)) ∧ ∀ y ∈ bs x, ∃ e', put1 (enc1 x y) (wipeE e own1) = .ok e' ∧ el e' = .ok (g x y)) → compL2 put bYes it1 own1 put1 bYes el env (xs.map enc) = .ok (xs.flatMap fun x => (bs x).map (g x))
  | [], _ => rfl
  | x :: xs, h => by
    obtain ⟨e, h1, h2, h3⟩ := h x List.mem_cons_self
    have ih := compL2_all enc enc1 bs g xs fun y hy => h y (List.mem_cons_of_mem _ hy)
    rw [List.map_cons]
    unfold compL2
    rw [h1]
    simp only [Res.nx_ok, Res.bind_ok, bYes, cond_true, h2]
    have h4 := compL_all (put := put1) (el := el) (env := wipeE e own1) (enc1 x) (g x) (bs x) h3
    rw [h4]
    simp only [Res.bind_ok]
    rw [ih]
    rfl
theorem eComp2_all {α β : Type} {it : EI} {own : List Nat} {put put1 : Put} {it1 : EI} {own1 : List Nat} {el : EX} {env : Env} (enc : α → Val) (enc1 : α → β → Val) (bs : α → List β) (g : α → β → Val) (xs : List α) (hi : it env = .ok (xs.map enc)) (hl : (xs.flatMap fun x => (bs x).map (g x)).length ≤ 16777216) (h : ∀ x ∈ xs, ∃ e, put (enc x) (wipeE env own) = .ok e ∧ it1 e = .ok ((bs x).map (enc1 x)) ∧ ∀ y ∈ bs x, ∃ e', put1 (enc1 x y) (wipeE e own1) = .ok e' ∧ el e' = .ok (g x y)) : eComp2 it own put bYes it1 own1 put1 bYes el env = .ok (.lst (xs.flatMap fun x => (bs x).map (g x))) := by
  unfold eComp2
  rw [hi]
  simp only [Res.bind_ok]
  rw [compL2_all enc enc1 bs g xs h]
  simp only [Res.bind_ok]
  rw [if_pos hl]
end Vm
end
noncomputable section
namespace Vm
local macro_rules | `(tactic| simp! [$ts,*]) => `(tactic| simp only [Ok_seq, OkM_seq, OkM_next, OkM_ret, OkM_exc, OkM_brk, OkM_cont, OkM_bind, OkM_cond, OkM_ite, RS.bind_ok, RS.bind_exc, RS.bind_bad, Res.flow_exc, Flow.bind_exc, RS.flow_ok, RS.flow_exc, RS.flow_bad, Res.rs_ok, Res.rs_exc, Res.rs_bad, RSflow_ite, RSbind_ite, RSflow_cond, RSbind_cond, rs_ite, rs_cond, mH, mN, mNil, mCons, mLst, mTup, m1, m2, mIf, mAnd, mOr, mNot, mFn, mArgs, bmP, bmV, bmT, bmAnd, bmOr, bmNot, sSetM, sDropM, sRetM, sIfM, sRaise, sSet, sSetN, sOwn, sOwnN, sAppend, sAppendN, sFreeze, sForget, sIf, sRet, sRetN, sNext, sPut, sDrop, sAug, sOn, sItem, sItemN, itemPut, sBreak, sCont, hide, Slot.hide, eVar, eC, e1, e2, eArgs, eAnd, eOr, eNot, eIf, eChain, eCall, eCut, partOf, aNil, aCons, asBl, bVal, bTruth, bAnd, bOr, bNot, bYes, truth, vAdd_int, vAdd_lst, vAdd_tup, vSub, vMul_int, vDiv_int, vMod_int, vPow18, vPow12, vPow11, vPow9, vPow6, vNeg, vLt, vLe, vGt, vGe, vEq, vNe, eqR_int, eqR_bl, eqR_str, vIsi, Val.isOb, vTup, vLst, vLen_lst, vLen_tup, vInt, vIs, vIsNot, vIx_lst, vIx_tup, vIx_dct, vListOf, vTupOf, vIpAdd, vMax2, vMax3, vMin2, Val.ty, Ty.sub, noLst_int, noLst_bl, noLst_str, noLst_non, noLst_tup, noLsts_nil, noLsts_cons, noLsts_ints, pName, pTup, pTupL, putAll, iSeq, itemsOf, iRange1, iRange2, DR.res, Res.ofOpt_some, Res.ofOpt_none, Res.bind_ok, Res.bind_exc, Res.bind_bad, Res.nx_ok, Res.flow_ok, Res.flow_bad, Flow.bind_next, Flow.bind_ret, Flow.bind_brk, Flow.bind_cont, Flow.bind_bad, Ok_next, Ok_ret, Ok_brk, Ok_cont, Ok_bind, Ok_cond, Ok_ite, Ok_ofOpt, flow_ite, bind_ite, nx_ite', flow_cond, bind_cond, cond_andV, cond_orV, cond_and, cond_or, atI_nat, atI_0, atI_1, atI_lit, startE, List.map_cons, List.map_nil, List.length_cons, List.length_nil, List.getElem?_cons_zero, List.getElem?_cons_succ, List.set_cons_zero, List.set_cons_succ, List.set_nil, List.replicate, List.append_nil, List.cons_append, List.nil_append, Nat.sub_self, Nat.reduceAdd, Nat.reduceSub, Nat.reduceLT, Nat.reduceLeDiff, Nat.reduceEqDiff, Int.reduceLE, Int.reduceLT, Int.reduceToNat, Int.reducePow, Int.reduceMul, Int.reduceAdd, Int.reduceSub, Int.reduceNeg, Int.cast_ofNat_Int, if_true, if_false, ↓reduceIte, reduceCtorEq, beq_self_eq_true, and_true, true_and, decide_eq_true_eq, decide_eq_false_iff_not, Bool.not_eq_true', Bool.not_eq_false', Bool.and_true, Bool.true_and, Bool.or_true, Bool.and_false, Bool.or_false, Bool.false_or, Bool.true_or, Bool.false_and, Bool.not_true, Bool.not_false, beq_iff_eq, forall_const, false_implies, Option.map_some, decide_true, decide_false, cond_true, cond_false, $ts,*])
open Lib
def shownB (c : Circ) (p : Nat × Bool) (n : Nat) : Bool := !decide (ansL c (stuckAt p.1 p.2) n = ansL c (fun _ b => b) n)
def flawV (p : Nat × Bool) : Val := .tup [.int p.1, bv p.2]
def flaws (c : Circ) : List (Nat × Bool) := (List.range (c.n + c.cells.length)).flatMap fun n => [(n, false), (n, true)]
def tooLarge : Exn := ⟨"TooLarge", []⟩
theorem flat2_len {α : Type} (f : Nat → List α) (n : Nat) (h : ∀ i, (f i).length = 2) : ((List.range n).flatMap f).length = 2 * n := by
  induction n with
  | zero => rfl
  | succ n ih =>
    rw [List.range_succ, List.flatMap_append, List.length_append, ih]
    simp [h]
    omega
theorem flaws_len (c : Circ) : (flaws c).length = 2 * (c.n + c.cells.length) := by
  unfold flaws
  exact flat2_len _ _ fun _ => rfl
theorem flaws_mem (c : Circ) (p : Nat × Bool) (h : p ∈ flaws c) : p.1 < c.n + c.cells.length := by
  unfold flaws at h
  rw [List.mem_flatMap] at h
  obtain ⟨n, hn, h⟩ := h
  rw [List.mem_range] at hn
  simp only [List.mem_cons, List.not_mem_nil, or_false] at h
  rcases h with rfl | rfl <;> exact hn
namespace Lib
open PySem
theorem check_size_ok (c : Circ) (hl : c.cells.length ≤ 1000) (hn : c.n ≤ 1000) (h : 2 ^ (c.n + lats c) ≤ 64) : f_check_size [c.v] = .ret .non := by
  have h1 := case_count_ok c hl hn
  generalize 2 ^ (c.n + lats c) = P at h h1
  have d : ¬ (64 : Int) < (P : Int) := by omega
  have d2 : decide ((64 : Int) < (P : Int)) = false := decide_eq_false d
  refine defn_ret rfl ?_
  unfold m_check_size
  simp! [h1, d, d2, vGt]
theorem check_size_exc (c : Circ) (hl : c.cells.length ≤ 1000) (hn : c.n ≤ 1000) (h : 64 < 2 ^ (c.n + lats c)) : f_check_size [c.v] = .exc tooLarge := by
  have h1 := case_count_ok c hl hn
  generalize 2 ^ (c.n + lats c) = P at h h1
  refine defn_exc rfl ⟨startE 1 [c.v], ?_⟩
  have key : (bVal (e2 vGt (eCall f_case_count (aCons (eVar 0) aNil)) (eC (.int 64)))) (startE 1 [c.v]) = .ok true := by
    have d : (64 : Int) < (P : Int) := by omega
    simp! [h1, d]
  have : m_check_size (startE 1 [c.v]) = .exc tooLarge (startE 1 [c.v]) := by
    unfold m_check_size sIf
    rw [key]
    rfl
  rw [this]
theorem all_flaws_ok (c : Circ) (hl : c.cells.length ≤ 1000) (hn : c.n ≤ 1000) : f_all_flaws [c.v] = .ret (.lst ((flaws c).map flawV)) := by
  have k0 : vIx c.v (.int 0) = .ok (.int c.n) := rfl
  have k1 : vIx c.v (.int 1) = .ok (.tup (c.cells.map Cell.v)) := rfl
  have cst : (c.n : Int) + (c.cells.length : Int) = ((c.n + c.cells.length : Nat) : Int) := by omega
  refine defn_ret rfl ?_
  have e : e_all_flaws_1 (startE 3 [c.v]) = .ok (.lst ((List.range (c.n + c.cells.length)).flatMap fun n => [false, true].map fun b => flawV (n, b))) := by
    unfold e_all_flaws_1
    refine eComp2_all (fun k : Nat => Val.int (0 + (k : Int))) (fun _ b => bv b) (fun _ => [false, true]) (fun n b => flawV (n, b)) (List.range (c.n + c.cells.length)) ?_ ?_ ?_
    · refine (range1_ok (n := c.n + c.cells.length) (by simp! [k0, k1, List.length_map, cst]) (by omega)).trans ?_
      rfl
    · rw [flat2_len _ _ fun _ => rfl]
      omega
    · intro x hx
      refine ⟨_, rfl, rfl, fun y hy => ⟨_, rfl, ?_⟩⟩
      rw [Int.zero_add]
      simp! [wipeE]
      rfl
  unfold m_all_flaws sRet
  rw [e]
  have : ((flaws c).map flawV) = ((List.range (c.n + c.cells.length)).flatMap fun n => [false, true].map fun b => flawV (n, b)) := by
    unfold flaws
    rw [List.map_flatMap]
    rfl
  rw [this, Res.flow_ok, Ok_ret]
end Lib
end Vm
end
noncomputable section
namespace Vm
namespace K20
open PySem
abbrev m__law_parts : ST := Lib.m__law_parts
abbrev f__law_parts : Fn := Lib.f__law_parts
abbrev m__law_cell : ST := Lib.m__law_cell
abbrev f__law_cell : Fn := Lib.f__law_cell
abbrev m__law_bare : ST := Lib.m__law_bare
abbrev f__law_bare : Fn := Lib.f__law_bare
abbrev m_latch_cells : ST := Lib.m_latch_cells
abbrev f_latch_cells : Fn := Lib.f_latch_cells
abbrev m_bit_count : ST := Lib.m_bit_count
abbrev f_bit_count : Fn := Lib.f_bit_count
abbrev m_case_count : ST := Lib.m_case_count
abbrev f_case_count : Fn := Lib.f_case_count
abbrev m_check_size : ST := Lib.m_check_size
abbrev f_check_size : Fn := Lib.f_check_size
abbrev m_all_flaws : ST := Lib.m_all_flaws
abbrev f_all_flaws : Fn := Lib.f_all_flaws
abbrev m_check_flaw : ST := Lib.m_check_flaw
abbrev f_check_flaw : Fn := Lib.f_check_flaw
abbrev m_case_bits : ST := Lib.m_case_bits
abbrev f_case_bits : Fn := Lib.f_case_bits
abbrev m_cell_value : ST := Lib.m_cell_value
abbrev f_cell_value : Fn := Lib.f_cell_value
abbrev m_settled_values : ST := Lib.m_settled_values
abbrev f_settled_values : Fn := Lib.f_settled_values
abbrev m_answers : ST := Lib.m_answers
abbrev f_answers : Fn := Lib.f_answers
abbrev m_shows : ST := Lib.m_shows
abbrev f_shows : Fn := Lib.f_shows
def e_make_tests_1 : EX := (eComp (iSeq (eCall f_all_flaws (aCons (eVar 0) aNil))) [7] (pName 7) (bTruth (eCall f_shows (aCons (eVar 0) (aCons (eVar 7) (aCons (eVar 2) aNil))))) (eVar 7))
def m_make_tests_c_L : ST := (sAppend 1 e_make_tests_1)
def m_make_tests_c_F : ST := (sFor (iRange1 (eCall f_case_count (aCons (eVar 0) aNil))) (pName 2) m_make_tests_c_L)
def e_make_tests_2 : EX := (eComp (iSeq (eVar 1)) [6] (pName 6) bYes (eArgs vLen (aCons (eVar 6) aNil)))
def e_make_tests_3 : EX := (eDcT (some st_Pairs) (iSeq (e2 vIx (eVar 1) (eVar 2))) [7] (pName 7) bYes (eVar 7) (eC (.bl true)))
def e_make_tests_4 : EX := (eComp (iSeq (eVar 6)) [7] (pName 7) (bVal (e2 (vNotInT (some st_Pairs)) (eVar 7) (eVar 5))) (eVar 7))
def e_make_tests_5 : EX := (eComp (iSeq (eVar 1)) [6] (pName 6) bYes e_make_tests_4)
def e_make_tests_6 : EX := (eComp (iSeq (eVar 1)) [6] (pName 6) bYes (eArgs vLen (aCons (eVar 6) aNil)))
def m_make_tests_f_4 : ST := (sSet 4 e_make_tests_6)
def m_make_tests_f_3 : ST := (sSeq (sSet 1 e_make_tests_5)
    m_make_tests_f_4)
def m_make_tests_f_2 : ST := (sSeq (sSet 5 e_make_tests_3)
    m_make_tests_f_3)
def m_make_tests_f_1 : ST := (sSeq (sAppend 3 (eVar 2))
    m_make_tests_f_2)
def m_make_tests_f_L : ST := (sSeq (sSet 2 (eIndex (eVar 4) (eArgs vMax (aCons (eVar 4) aNil))))
    m_make_tests_f_1)
def m_make_tests_f_F : ST := (sWhile 100000 (bVal (e2 vGt (eArgs vMax (aCons (eVar 4) aNil)) (eC (.int 0)))) m_make_tests_f_L)
def m_make_tests_8 : ST := (sRet (eVar 3))
def m_make_tests_7 : ST := (sSeq (sFreeze 3) m_make_tests_8)
def m_make_tests_6 : ST := (sSeq m_make_tests_f_F
    m_make_tests_7)
def m_make_tests_5 : ST := (sSeq (sSet 4 e_make_tests_2)
    m_make_tests_6)
def m_make_tests_4 : ST := (sSeq (sOwn 3 (eArgs vLst aNil))
    m_make_tests_5)
def m_make_tests_3 : ST := (sSeq (sFreeze 1) m_make_tests_4)
def m_make_tests_2 : ST := (sSeq m_make_tests_c_F
    m_make_tests_3)
def m_make_tests_1 : ST := (sSeq (sOwn 1 (eArgs vLst aNil))
    m_make_tests_2)
def m_make_tests : ST := (sSeq (sDrop (eCall f_check_size (aCons (eVar 0) aNil)))
    m_make_tests_1)
def f_make_tests : Fn := defn 1 8 m_make_tests
abbrev m__law_cases : ST := Lib.m__law_cases
abbrev f__law_cases : Fn := Lib.f__law_cases
abbrev m__law_value : ST := Lib.m__law_value
abbrev f__law_value : Fn := Lib.f__law_value
abbrev m__law_answers : ST := Lib.m__law_answers
abbrev f__law_answers : Fn := Lib.f__law_answers
def m__law_shown_bca_L : ST := (sIf (bVal (e2 vNe (eCall f__law_answers (aCons (eVar 0) (aCons (eVar 2) (aCons (eVar 5) (aCons (eVar 6) aNil))))) (eVar 3))) (sAppend 4 (eArgs vTup (aCons (eVar 5) (aCons (eVar 6) aNil)))) sNext)
def m__law_shown_bca_F : ST := (sFor (iRange1 (eC (.int 2))) (pName 6) m__law_shown_bca_L)
def m__law_shown_bc_F : ST := (sFor (iRange1 (e2 vAdd (e2 vIx (eVar 0) (eC (.int 0))) (eArgs vLen (aCons (e2 vIx (eVar 0) (eC (.int 1))) aNil)))) (pName 5) m__law_shown_bca_F)
def m__law_shown_b_4 : ST := (sAppend 1 (eVar 4))
def m__law_shown_b_3 : ST := (sSeq (sFreeze 4) m__law_shown_b_4)
def m__law_shown_b_2 : ST := (sSeq m__law_shown_bc_F
    m__law_shown_b_3)
def m__law_shown_b_1 : ST := (sSeq (sOwn 4 (eArgs vLst aNil))
    m__law_shown_b_2)
def m__law_shown_b_L : ST := (sSeq (sSet 3 (eCall f__law_answers (aCons (eVar 0) (aCons (eVar 2) (aCons (e1 vNeg (eC (.int 1))) (aCons (eC (.int 0)) aNil))))))
    m__law_shown_b_1)
def m__law_shown_b_F : ST := (sFor (iRange1 (eCall f__law_cases (aCons (eVar 0) aNil))) (pName 2) m__law_shown_b_L)
def m__law_shown_3 : ST := (sRet (eVar 1))
def m__law_shown_2 : ST := (sSeq (sFreeze 1) m__law_shown_3)
def m__law_shown_1 : ST := (sSeq m__law_shown_b_F
    m__law_shown_2)
def m__law_shown : ST := (sSeq (sOwn 1 (eArgs vLst aNil))
    m__law_shown_1)
def f__law_shown : Fn := defn 1 7 m__law_shown
abbrev m_first_case : ST := Lib.m_first_case
abbrev f_first_case : Fn := Lib.f_first_case
abbrev m_hidden_flaws : ST := Lib.m_hidden_flaws
abbrev f_hidden_flaws : Fn := Lib.f_hidden_flaws
def m__law_refuses_b_T : ST := (sDrop (eCall f_make_tests (aCons (eVar 0) aNil)))
def m__law_refuses_c_T : ST := (sDrop (eCall f_hidden_flaws (aCons (eVar 0) aNil)))
def m__law_refuses_d_T : ST := (sDrop (eCall f_first_case (aCons (eVar 0) (aCons (eArgs vTup (aCons (eC (.int 90)) (aCons (eC (.int 3)) aNil))) aNil))))
def m__law_refuses_4 : ST := (sRet (e2 vEq (eVar 1) (eC (.int 3))))
def m__law_refuses_3 : ST := (sSeq (sTryAs 2 tb_GatesError m__law_refuses_d_T (suE fun q => (sSetN 1 (e2 vAdd (eVar 1) (eArgs vInt (aCons (eIsE ti_TooLarge q) aNil))))))
    m__law_refuses_4)
def m__law_refuses_2 : ST := (sSeq (sTryAs 2 tb_GatesError m__law_refuses_c_T (suE fun q => (sSetN 1 (e2 vAdd (eVar 1) (eArgs vInt (aCons (eIsE ti_TooLarge q) aNil))))))
    m__law_refuses_3)
def m__law_refuses_1 : ST := (sSeq (sTryAs 2 tb_GatesError m__law_refuses_b_T (suE fun q => (sSetN 1 (e2 vAdd (eVar 1) (eArgs vInt (aCons (eIsE ti_TooLarge q) aNil))))))
    m__law_refuses_2)
def m__law_refuses : ST := (sSeq (sSet 1 (eC (.int 0)))
    m__law_refuses_1)
def f__law_refuses : Fn := defn 1 3 m__law_refuses
abbrev m__law_kind : ST := Lib.m__law_kind2
abbrev f__law_kind : Fn := Lib.f__law_kind2
abbrev m__law_drawn : ST := Lib.m__law_drawn
abbrev f__law_drawn : Fn := Lib.f__law_drawn
abbrev m__law_circuit : ST := Lib.m__law_circuit4
abbrev f__law_circuit : Fn := Lib.f__law_circuit4
abbrev m__law_is_integer : ST := Lib.m__law_is_integer
abbrev f__law_is_integer : Fn := Lib.f__law_is_integer
def e_law_1 : EX := (eComp (iRange1 (e2 vAdd (eC (.int 1)) (e2 vIx (eVar 1) (eC (.int 1))))) [11] (pName 11) bYes (eArgs vTup (aCons (eC (.str "latch")) (aCons (eArgs vTup (aCons (eVar 11) aNil)) (aCons (e2 vAdd (eC (.int 6)) (eVar 11)) aNil)))))
def m_law_b_1 : ST := (sRet (eCall f__law_refuses (aCons (eArgs vTup (aCons (eC (.int 6)) (aCons (eArgs vTupOf (aCons (eVar 6) aNil)) (aCons (eArgs vTup (aCons (eC (.int 6)) (aCons (eC (.int 0)) aNil))) (aCons (eRange1 .tup (e2 vAdd (eC (.int 1)) (e2 vIx (eVar 1) (eC (.int 1))))) aNil))))) aNil)))
def m_law_d_1 : ST := (sSet 2 (eArgs vTup (aCons (eC (.int 6)) (aCons (eArgs vTup (aCons (eArgs vTup (aCons (eVar 7) (aCons (eArgs vTup (aCons (e2 vIx (eVar 1) (eC (.int 1))) (aCons (e2 vSub (eC (.int 5)) (e2 vIx (eVar 1) (eC (.int 1)))) aNil))) (aCons (eC (.int 6)) aNil)))) aNil)) (aCons (eArgs vTup (aCons (eC (.int 6)) (aCons (e2 vIx (eVar 1) (eC (.int 2))) aNil))) (aCons (eArgs vTup aNil) aNil))))))
def m_law_e_3 : ST := (sSet 2 (eArgs vTup (aCons (eC (.int 4)) (aCons (eArgs vTupOf (aCons (eVar 8) aNil)) (aCons (eArgs vTup (aCons (eC (.int 6)) (aCons (e2 vIx (eVar 1) (eC (.int 2))) aNil))) (aCons (eArgs vTup (aCons (eC (.int 0)) (aCons (eC (.int 1)) aNil))) aNil))))))
def m_law_e_2 : ST := (sSeq (sIf (bVal (e2 vGt (e2 vIx (eVar 1) (eC (.int 3))) (eC (.int 1)))) (sSet 8 (eArgs vLst (aCons (eArgs vTup (aCons (eC (.str "latch")) (aCons (eArgs vTup (aCons (e2 vIx (eVar 1) (eC (.int 2))) aNil)) (aCons (eC (.int 4)) aNil)))) (aCons (eArgs vTup (aCons (eVar 7) (aCons (eArgs vTup (aCons (e2 vIx (eVar 1) (eC (.int 1))) (aCons (eC (.int 4)) aNil))) (aCons (eC (.int 5)) aNil)))) (aCons (eArgs vTup (aCons (eC (.str "latch")) (aCons (eArgs vTup (aCons (e2 vSub (eC (.int 6)) (e2 vIx (eVar 1) (eC (.int 1)))) aNil)) (aCons (eC (.int 6)) aNil)))) aNil))))) sNext)
    m_law_e_3)
def m_law_e_1 : ST := (sSeq (sSet 8 (eArgs vLst (aCons (eArgs vTup (aCons (eC (.str "latch")) (aCons (eArgs vTup (aCons (e2 vIx (eVar 1) (eC (.int 2))) aNil)) (aCons (eC (.int 4)) aNil)))) (aCons (eArgs vTup (aCons (eC (.str "latch")) (aCons (eArgs vTup (aCons (e2 vSub (eC (.int 6)) (e2 vIx (eVar 1) (eC (.int 1)))) aNil)) (aCons (eC (.int 5)) aNil)))) (aCons (eArgs vTup (aCons (eVar 7) (aCons (eArgs vTup (aCons (e2 vIx (eVar 1) (eC (.int 1))) (aCons (eC (.int 5)) aNil))) (aCons (eC (.int 6)) aNil)))) aNil)))))
    m_law_e_2)
def e_law_2 : EX := (eComp (iSeq (eVar 4)) [12] (pName 12) bYes (eArgs vLen (aCons (eVar 12) aNil)))
def e_law_3 : EX := (eComp (iSeq (eVar 4)) [12] (pName 12) bYes (eArgs vLen (aCons (eVar 12) aNil)))
def e_law_4 : EX := (eComp (iSeq (eVar 12)) [13] (pName 13) (bVal (e2 vNotInDt (eVar 13) (eVar 10))) (eVar 13))
def e_law_5 : EX := (eComp (iSeq (eVar 4)) [12] (pName 12) bYes e_law_4)
def m_law_i_4 : ST := (sSet 4 e_law_5)
def m_law_i_3 : ST := (sSeq (sSet 10 (e2 vIx (eVar 4) (eVar 5)))
    m_law_i_4)
def m_law_i_2 : ST := (sSeq (sIf (bVal (e2 vNe (eVar 5) (eIndex e_law_3 (eVar 9)))) (sRet (eC (.bl false))) sNext)
    m_law_i_3)
def m_law_i_1 : ST := (sSeq (sIf (bOr (bNot (bTruth (eCall f__law_is_integer (aCons (eVar 5) aNil)))) (bOr (bVal (e2 vEq (eVar 9) (eC (.int 0)))) (bOr (bVal (e2 vLt (eVar 5) (eC (.int 0)))) (bVal (e2 vGe (eVar 5) (eArgs vLen (aCons (eVar 4) aNil))))))) (sRet (eC (.bl false))) sNext)
    m_law_i_2)
def m_law_i_L : ST := (sSeq (sSet 9 (eArgs vMax (aCons e_law_2 aNil)))
    m_law_i_1)
def m_law_i_F : ST := (sFor (iSeq (eVar 3)) (pName 5) m_law_i_L)
def e_law_6 : EX := (eComp (iSeq (eVar 4)) [12] (pName 12) bYes (eArgs vLen (aCons (eVar 12) aNil)))
def m_law_9 : ST := (sRet (e2 vEq (eArgs vMax (aCons e_law_6 aNil)) (eC (.int 0))))
def m_law_8 : ST := (sSeq m_law_i_F
    m_law_9)
def m_law_7 : ST := (sSeq (sSet 4 (eCall f__law_shown (aCons (eVar 2) aNil)))
    m_law_8)
def m_law_6 : ST := (sSeq (sIf (bNot (bTruth (e1 (vIsi .list) (eVar 3)))) (sRet (eC (.bl false))) sNext)
    m_law_7)
def m_law_5 : ST := (sSeq (sSet 3 (eCall f_make_tests (aCons (eVar 2) aNil)))
    m_law_6)
def m_law_4 : ST := (sSeq (sIf (bVal (e2 vEq (e2 vIx (eVar 1) (eC (.int 0))) (eC (.int 2)))) (sSeq (sSet 7 (e2 vIx (eArgs vLst (aCons (eC (.str "nand2")) (aCons (eC (.str "nor2")) (aCons (eC (.str "nand2")) (aCons (eC (.str "nor2")) aNil))))) (e2 vIx (eVar 1) (eC (.int 3)))))
    m_law_e_1) sNext)
    m_law_5)
def m_law_3 : ST := (sSeq (sIf (bVal (e2 vEq (e2 vIx (eVar 1) (eC (.int 0))) (eC (.int 1)))) (sSeq (sSet 7 (e2 vIx (eArgs vLst (aCons (eC (.str "nand2")) (aCons (eC (.str "nor2")) (aCons (eC (.str "nand2")) (aCons (eC (.str "nor2")) aNil))))) (e2 vIx (eVar 1) (eC (.int 3)))))
    m_law_d_1) sNext)
    m_law_4)
def m_law_2 : ST := (sSeq (sSet 2 (eCall f__law_bare (aCons (eVar 0) (aCons (eCall f__law_circuit (aCons (eVar 0) (aCons (eC (.int 8)) aNil))) aNil))))
    m_law_3)
def m_law_1 : ST := (sSeq (sIf (bVal (e2 vEq (e2 vIx (eVar 1) (eC (.int 0))) (eC (.int 0)))) (sSeq (sSet 6 e_law_1)
    m_law_b_1) sNext)
    m_law_2)
def m_law : ST := (sSeq (sSet 1 (eCall f__law_parts (aCons (eCall f__law_cell (aCons (eVar 0) (aCons (eC (.int 1)) aNil))) (aCons (eArgs vLst (aCons (eC (.int 6)) (aCons (eC (.int 3)) (aCons (eC (.int 6)) (aCons (eC (.int 4)) aNil))))) aNil))))
    m_law_1)
def f_law : Fn := defn 1 14 m_law
end K20
end Vm
end
namespace Vm
namespace K20
open PySem L2 PyProof.Rows
structure Glb (w : World) (K : PySem.W.Frag) (mg : Str → Option Value) : Prop where
  u_range : mg "range" = none
  u_len : mg "len" = none
  u_int : mg "int" = none
  u_tuple : mg "tuple" = none
  u_all : mg "all" = none
  u_any : mg "any" = none
  u_enumerate : mg "enumerate" = none
  u_list : mg "list" = none
  u_max : mg "max" = none
  u_sum : mg "sum" = none
  u_isinstance : mg "isinstance" = none
  u_min : mg "min" = none
  u_bool : mg "bool" = none
  g_MOST_CASES : ∃ t, mg "MOST_CASES" = some (.int 64 t)
  a_CONSTANTS : mg "CONSTANTS" = some (.ref (He.ga K "CONSTANTS"))
  g_CONSTANTS : KD K w (He.ga K "CONSTANTS") v_CONSTANTS
  k_CONSTANTS : KDk K w (He.ga K "CONSTANTS") v_CONSTANTS
  g_NANDS : GV K mg "NANDS" v_NANDS
  x_TooLarge : XC K mg "TooLarge"
  x_NoSuchThing : XC K mg "NoSuchThing"
  x_GatesError : XC K mg "GatesError"
  t_GatesError : ∀ p ∈ tb_GatesError, PySem.W.exmOne K (.ref (He.ga K p.1)) (.ref (He.ga K "GatesError")) = some p.2
  i_TooLarge : IsT K mg "TooLarge" ti_TooLarge
  a__law_parts : mg "_law_parts" = some (.ref (He.ga K "_law_parts"))
  D__law_parts : ∃ fd, L2.FunD K "_law_parts" "_law_parts" (defArgs (T 27)) (defBody (T 27)) (defScope (T 27)) [] [] (He.ga K "_law_parts") fd
  a__law_cell : mg "_law_cell" = some (.ref (He.ga K "_law_cell"))
  D__law_cell : ∃ fd, L2.FunD K "_law_cell" "_law_cell" (defArgs (T 26)) (defBody (T 26)) (defScope (T 26)) [] [] (He.ga K "_law_cell") fd
  a__law_bare : mg "_law_bare" = some (.ref (He.ga K "_law_bare"))
  D__law_bare : ∃ fd, L2.FunD K "_law_bare" "_law_bare" (defArgs (T 37)) (defBody (T 37)) (defScope (T 37)) [] [] (He.ga K "_law_bare") fd
  a_latch_cells : mg "latch_cells" = some (.ref (He.ga K "latch_cells"))
  D_latch_cells : ∃ fd, L2.FunD K "latch_cells" "latch_cells" (defArgs (T 9)) (defBody (T 9)) (defScope (T 9)) [] [] (He.ga K "latch_cells") fd
  a_bit_count : mg "bit_count" = some (.ref (He.ga K "bit_count"))
  D_bit_count : ∃ fd, L2.FunD K "bit_count" "bit_count" (defArgs (T 12)) (defBody (T 12)) (defScope (T 12)) [] [] (He.ga K "bit_count") fd
  a_case_count : mg "case_count" = some (.ref (He.ga K "case_count"))
  D_case_count : ∃ fd, L2.FunD K "case_count" "case_count" (defArgs (T 13)) (defBody (T 13)) (defScope (T 13)) [] [] (He.ga K "case_count") fd
  a_check_size : mg "check_size" = some (.ref (He.ga K "check_size"))
  D_check_size : ∃ fd, L2.FunD K "check_size" "check_size" (defArgs (T 20)) (defBody (T 20)) (defScope (T 20)) [] [] (He.ga K "check_size") fd
  a_all_flaws : mg "all_flaws" = some (.ref (He.ga K "all_flaws"))
  D_all_flaws : ∃ fd, L2.FunD K "all_flaws" "all_flaws" (defArgs (T 21)) (defBody (T 21)) (defScope (T 21)) [] [] (He.ga K "all_flaws") fd
  a_check_flaw : mg "check_flaw" = some (.ref (He.ga K "check_flaw"))
  D_check_flaw : ∃ fd, L2.FunD K "check_flaw" "check_flaw" (defArgs (T 15)) (defBody (T 15)) (defScope (T 15)) [] [] (He.ga K "check_flaw") fd
  a_case_bits : mg "case_bits" = some (.ref (He.ga K "case_bits"))
  D_case_bits : ∃ fd, L2.FunD K "case_bits" "case_bits" (defArgs (T 14)) (defBody (T 14)) (defScope (T 14)) [] [] (He.ga K "case_bits") fd
  a_cell_value : mg "cell_value" = some (.ref (He.ga K "cell_value"))
  D_cell_value : ∃ fd, L2.FunD K "cell_value" "cell_value" (defArgs (T 7)) (defBody (T 7)) (defScope (T 7)) [] [] (He.ga K "cell_value") fd
  a_settled_values : mg "settled_values" = some (.ref (He.ga K "settled_values"))
  D_settled_values : ∃ fd, L2.FunD K "settled_values" "settled_values" (defArgs (T 10)) (defBody (T 10)) (defScope (T 10)) [] [] (He.ga K "settled_values") fd
  a_answers : mg "answers" = some (.ref (He.ga K "answers"))
  D_answers : ∃ fd, L2.FunD K "answers" "answers" (defArgs (T 16)) (defBody (T 16)) (defScope (T 16)) [] [] (He.ga K "answers") fd
  a_shows : mg "shows" = some (.ref (He.ga K "shows"))
  D_shows : ∃ fd, L2.FunD K "shows" "shows" (defArgs (T 17)) (defBody (T 17)) (defScope (T 17)) [] [] (He.ga K "shows") fd
  a_make_tests : mg "make_tests" = some (.ref (He.ga K "make_tests"))
  D_make_tests : ∃ fd, L2.FunD K "make_tests" "make_tests" (defArgs (T 24)) (defBody (T 24)) (defScope (T 24)) [] [] (He.ga K "make_tests") fd
  a__law_cases : mg "_law_cases" = some (.ref (He.ga K "_law_cases"))
  D__law_cases : ∃ fd, L2.FunD K "_law_cases" "_law_cases" (defArgs (T 34)) (defBody (T 34)) (defScope (T 34)) [] [] (He.ga K "_law_cases") fd
  a__law_value : mg "_law_value" = some (.ref (He.ga K "_law_value"))
  D__law_value : ∃ fd, L2.FunD K "_law_value" "_law_value" (defArgs (T 32)) (defBody (T 32)) (defScope (T 32)) [] [] (He.ga K "_law_value") fd
  a__law_answers : mg "_law_answers" = some (.ref (He.ga K "_law_answers"))
  D__law_answers : ∃ fd, L2.FunD K "_law_answers" "_law_answers" (defArgs (T 33)) (defBody (T 33)) (defScope (T 33)) [] [] (He.ga K "_law_answers") fd
  a__law_shown : mg "_law_shown" = some (.ref (He.ga K "_law_shown"))
  D__law_shown : ∃ fd, L2.FunD K "_law_shown" "_law_shown" (defArgs (T 36)) (defBody (T 36)) (defScope (T 36)) [] [] (He.ga K "_law_shown") fd
  a_first_case : mg "first_case" = some (.ref (He.ga K "first_case"))
  D_first_case : ∃ fd, L2.FunD K "first_case" "first_case" (defArgs (T 22)) (defBody (T 22)) (defScope (T 22)) [] [] (He.ga K "first_case") fd
  a_hidden_flaws : mg "hidden_flaws" = some (.ref (He.ga K "hidden_flaws"))
  D_hidden_flaws : ∃ fd, L2.FunD K "hidden_flaws" "hidden_flaws" (defArgs (T 23)) (defBody (T 23)) (defScope (T 23)) [] [] (He.ga K "hidden_flaws") fd
  a__law_refuses : mg "_law_refuses" = some (.ref (He.ga K "_law_refuses"))
  D__law_refuses : ∃ fd, L2.FunD K "_law_refuses" "_law_refuses" (defArgs (T 35)) (defBody (T 35)) (defScope (T 35)) [] [] (He.ga K "_law_refuses") fd
  a__law_kind : mg "_law_kind" = some (.ref (He.ga K "_law_kind"))
  D__law_kind : ∃ fd, L2.FunD K "_law_kind" "_law_kind" (defArgs (T 29)) (defBody (T 29)) (defScope (T 29)) [] [] (He.ga K "_law_kind") fd
  a__law_drawn : mg "_law_drawn" = some (.ref (He.ga K "_law_drawn"))
  D__law_drawn : ∃ fd, L2.FunD K "_law_drawn" "_law_drawn" (defArgs (T 30)) (defBody (T 30)) (defScope (T 30)) [] [] (He.ga K "_law_drawn") fd
  a__law_circuit : mg "_law_circuit" = some (.ref (He.ga K "_law_circuit"))
  D__law_circuit : ∃ fd, L2.FunD K "_law_circuit" "_law_circuit" (defArgs (T 31)) (defBody (T 31)) (defScope (T 31)) [] [] (He.ga K "_law_circuit") fd
  a__law_is_integer : mg "_law_is_integer" = some (.ref (He.ga K "_law_is_integer"))
  D__law_is_integer : ∃ fd, L2.FunD K "_law_is_integer" "_law_is_integer" (defArgs (T 28)) (defBody (T 28)) (defScope (T 28)) [] [] (He.ga K "_law_is_integer") fd
  a_law : mg "law" = some (.ref (He.ga K "law"))
  D_law : ∃ fd, L2.FunD K "law" "law" (defArgs (T 38)) (defBody (T 38)) (defScope (T 38)) [] [] (He.ga K "law") fd
  kt_Pairs : NoKT K (some st_Pairs)
section
variable {P : Program} {w : World} {K : PySem.W.Frag} {mg : Str → Option Value} {base : Heap}
def N__law_parts : List Str := ["_law_cell_here", "_law_sizes", "_law_parts_here", "_law_rest", "_law_k", "_law_mixed"]
theorem s__law_parts : FnScope N__law_parts ["_law_cell_here", "_law_sizes"] (defScope (T 27)) := ⟨rfl, rfl, rfl, by decide +kernel, rfl, by decide +kernel, by decide +kernel⟩
set_option maxHeartbeats 0 in
theorem b__law_parts (G : Glb w K mg) : Body P w K mg base (xr K) 0 N__law_parts "_law_parts" (defScope (T 27)) (defBody (T 27)) m__law_parts := by
  intro f cd A outer s H E W X tk F hr
  have nd : X.N.Nodup := s__law_parts.nd
  exact ⟨_, (ss_cons (ss_own 2 (sf_lst sa_nil))
    (ss_cons (ss_set 3 (se_sub (se_var 0) (se_pow se_int se_int)))
    (ss_cons (ss_for F (si_rng1 G.u_range (se_len G.u_len (sa_cons (se_var 1) sa_nil))) (sg_name 4) (ss_one (ss_if (sb_cmp c_ge (se_var 3) se_int) (ss_cons (ss_app 2 (se_mod (se_intOf G.u_int (sa_cons (se_var 3) sa_nil)) (se_ix F (se_var 1) (se_var 4))))
    (ss_one (ss_set 3 (se_div (se_var 3) (se_ix F (se_var 1) (se_var 4)))))) (ss_cons (ss_set 5 (se_mod (se_intOf G.u_int (sa_cons (se_add (se_add (se_mul (se_var 0) se_int) (se_mul (se_var 4) se_int)) se_int) sa_nil)) se_int))
    (ss_cons (ss_set 5 (se_mod (se_intOf G.u_int (sa_cons (se_add (se_add (se_mul (se_var 5) (se_var 5)) (se_mul se_int (se_var 4))) se_int) sa_nil)) se_int))
    (ss_one (ss_app 2 (se_mod (se_intOf G.u_int (sa_cons (se_var 5) sa_nil)) (se_ix F (se_var 1) (se_var 4))))))))))
    (ss_freeze 2 (ss_one (ss_ret (se_var 2)))))))⟩
theorem c__law_parts (G : Glb w K mg) : Cal P w K mg base (xr K) "_law_parts" 1 2 f__law_parts := by
  obtain ⟨fd, F⟩ := G.D__law_parts
  exact cal_of F G.a__law_parts s__law_parts (fun _ _ _ _ _ _ us hl => match us, hl with | [_, _], _ => rfl) rfl rfl (b__law_parts G)
def N__law_cell : List Str := ["_law_script", "_law_k"]
theorem s__law_cell : FnScope N__law_cell ["_law_script", "_law_k"] (defScope (T 26)) := ⟨rfl, rfl, rfl, by decide +kernel, rfl, by decide +kernel, by decide +kernel⟩
set_option maxHeartbeats 0 in
theorem b__law_cell (G : Glb w K mg) : Body P w K mg base (xr K) 0 N__law_cell "_law_cell" (defScope (T 26)) (defBody (T 26)) m__law_cell := by
  intro f cd A outer s H E W X tk F hr
  have nd : X.N.Nodup := s__law_cell.nd
  exact ⟨_, (ss_cons (ss_if (sb_cmp c_lt (se_var 1) (se_len G.u_len (sa_cons (se_var 0) sa_nil))) (ss_one (ss_ret (se_ix F (se_var 0) (se_var 1)))) ss_nil)
    (ss_one (ss_ret se_int)))⟩
theorem c__law_cell (G : Glb w K mg) : Cal P w K mg base (xr K) "_law_cell" 1 2 f__law_cell := by
  obtain ⟨fd, F⟩ := G.D__law_cell
  exact cal_of F G.a__law_cell s__law_cell (fun _ _ _ _ _ _ us hl => match us, hl with | [_, _], _ => rfl) rfl rfl (b__law_cell G)
def N__law_bare : List Str := ["_law_script", "_law_circuit_here", "_law_net"]
theorem s__law_bare : FnScope N__law_bare ["_law_script", "_law_circuit_here"] (defScope (T 37)) := ⟨rfl, rfl, rfl, by decide +kernel, rfl, by decide +kernel, by decide +kernel⟩
set_option maxHeartbeats 0 in
theorem b__law_bare (G : Glb w K mg) : Body P w K mg base (xr K) 1 N__law_bare "_law_bare" (defScope (T 37)) (defBody (T 37)) m__law_bare := by
  intro f cd A outer s H E W X tk F hr
  have nd : X.N.Nodup := s__law_bare.nd
  exact ⟨_, (ss_cons (ss_if (sb_w (sw_or (sb_cmp (c_eq F) (se_ix F (se_var 1) se_int) se_int) (sw_or1 (sb_cmp (c_ne F) (se_mod (se_intOf G.u_int (sa_cons (se_call (c__law_cell G) hr F.le (sa_cons (se_var 0) (sa_cons se_int sa_nil))) sa_nil)) se_int) se_int)))) (ss_one (ss_ret (se_var 1))) ss_nil)
    (ss_one (ss_ret (se_tup (sa_cons (se_ix F (se_var 1) se_int) (sa_cons (se_tup sa_nil) (sa_cons (se_tupOf G.u_tuple (sa_cons (SF.comp (sf_comp (own := [("_law_net", 2)]) (te := (tOp rModV (tCB rIntC (tCons (tVar 2) tNil)) (tOp (rIxV K) (tVar 1) (tC (.int 0))))) (tt := tYes) (g := (gName 2)) F (si_seq (se_ix F (se_var 1) se_int)) (fun s H Cc cl fp => (sg_name 2)) (fun s H Cc cl fp => st_nil) (fun s H Cc cl fp => (se_mod (se_intOf G.u_int (sa_cons (se_var 2) sa_nil)) (se_ix (F.blk _ _ _ _ _) (se_var 1) se_int))))) sa_nil)) (sa_cons (se_tup sa_nil) sa_nil))))))))⟩
theorem c__law_bare (G : Glb w K mg) : Cal P w K mg base (xr K) "_law_bare" 2 2 f__law_bare := by
  obtain ⟨fd, F⟩ := G.D__law_bare
  exact cal_of F G.a__law_bare s__law_bare (fun _ _ _ _ _ _ us hl => match us, hl with | [_, _], _ => rfl) rfl rfl (b__law_bare G)
def N_latch_cells : List Str := ["circuit", "cell"]
theorem s_latch_cells : FnScope N_latch_cells ["circuit"] (defScope (T 9)) := ⟨rfl, rfl, rfl, by decide +kernel, rfl, by decide +kernel, by decide +kernel⟩
set_option maxHeartbeats 0 in
theorem b_latch_cells (G : Glb w K mg) : Body P w K mg base (xr K) 0 N_latch_cells "latch_cells" (defScope (T 9)) (defBody (T 9)) m_latch_cells := by
  intro f cd A outer s H E W X tk F hr
  have nd : X.N.Nodup := s_latch_cells.nd
  exact ⟨_, (ss_one (ss_ret (SF.comp (sf_comp (own := [("cell", 1)]) (te := (tVar 1)) (tt := (tTest (tOp (rEqV K) (tOp (rIxV K) (tVar 1) (tC (.int 0))) (tC (.str "latch"))))) (g := (gName 1)) F (si_seq (se_ix F (se_var 0) se_int)) (fun s H Cc cl fp => (sg_name 1)) (fun s H Cc cl fp => (st_one (sb_cmp (c_eq (F.blk _ _ _ _ _)) (se_ix (F.blk _ _ _ _ _) (se_var 1) se_int) se_str))) (fun s H Cc cl fp => (se_var 1))))))⟩
theorem c_latch_cells (G : Glb w K mg) : Cal P w K mg base (xr K) "latch_cells" 1 1 f_latch_cells := by
  obtain ⟨fd, F⟩ := G.D_latch_cells
  exact cal_of F G.a_latch_cells s_latch_cells (fun _ _ _ _ _ _ us hl => match us, hl with | [_], _ => rfl) rfl rfl (b_latch_cells G)
def N_bit_count : List Str := ["circuit"]
theorem s_bit_count : FnScope N_bit_count ["circuit"] (defScope (T 12)) := ⟨rfl, rfl, rfl, by decide +kernel, rfl, by decide +kernel, by decide +kernel⟩
set_option maxHeartbeats 0 in
theorem b_bit_count (G : Glb w K mg) : Body P w K mg base (xr K) 1 N_bit_count "bit_count" (defScope (T 12)) (defBody (T 12)) m_bit_count := by
  intro f cd A outer s H E W X tk F hr
  have nd : X.N.Nodup := s_bit_count.nd
  exact ⟨_, (ss_one (ss_ret (se_add (se_ix F (se_var 0) se_int) (se_len G.u_len (sa_cons (se_call (c_latch_cells G) hr F.le (sa_cons (se_var 0) sa_nil)) sa_nil)))))⟩
theorem c_bit_count (G : Glb w K mg) : Cal P w K mg base (xr K) "bit_count" 2 1 f_bit_count := by
  obtain ⟨fd, F⟩ := G.D_bit_count
  exact cal_of F G.a_bit_count s_bit_count (fun _ _ _ _ _ _ us hl => match us, hl with | [_], _ => rfl) rfl rfl (b_bit_count G)
def N_case_count : List Str := ["circuit"]
theorem s_case_count : FnScope N_case_count ["circuit"] (defScope (T 13)) := ⟨rfl, rfl, rfl, by decide +kernel, rfl, by decide +kernel, by decide +kernel⟩
set_option maxHeartbeats 0 in
theorem b_case_count (G : Glb w K mg) : Body P w K mg base (xr K) 2 N_case_count "case_count" (defScope (T 13)) (defBody (T 13)) m_case_count := by
  intro f cd A outer s H E W X tk F hr
  have nd : X.N.Nodup := s_case_count.nd
  exact ⟨_, (ss_one (ss_ret (se_shl se_int (se_call (c_bit_count G) hr F.le (sa_cons (se_var 0) sa_nil)))))⟩
theorem c_case_count (G : Glb w K mg) : Cal P w K mg base (xr K) "case_count" 3 1 f_case_count := by
  obtain ⟨fd, F⟩ := G.D_case_count
  exact cal_of F G.a_case_count s_case_count (fun _ _ _ _ _ _ us hl => match us, hl with | [_], _ => rfl) rfl rfl (b_case_count G)
def N_check_size : List Str := ["circuit"]
theorem s_check_size : FnScope N_check_size ["circuit"] (defScope (T 20)) := ⟨rfl, rfl, rfl, by decide +kernel, rfl, by decide +kernel, by decide +kernel⟩
set_option maxHeartbeats 0 in
theorem b_check_size (G : Glb w K mg) : Body P w K mg base (xr K) 3 N_check_size "check_size" (defScope (T 20)) (defBody (T 20)) m_check_size := by
  intro f cd A outer s H E W X tk F hr
  have nd : X.N.Nodup := s_check_size.nd
  exact ⟨_, (ss_one (ss_if (sb_cmp c_gt (se_call (c_case_count G) hr F.le (sa_cons (se_var 0) sa_nil)) (se_gi G.g_MOST_CASES)) (ss_one (ss_raise tk F.ca G.x_TooLarge)) ss_nil))⟩
theorem c_check_size (G : Glb w K mg) : Cal P w K mg base (xr K) "check_size" 4 1 f_check_size := by
  obtain ⟨fd, F⟩ := G.D_check_size
  exact cal_of F G.a_check_size s_check_size (fun _ _ _ _ _ _ us hl => match us, hl with | [_], _ => rfl) rfl rfl (b_check_size G)
def N_all_flaws : List Str := ["circuit", "net", "value"]
theorem s_all_flaws : FnScope N_all_flaws ["circuit"] (defScope (T 21)) := ⟨rfl, rfl, rfl, by decide +kernel, rfl, by decide +kernel, by decide +kernel⟩
set_option maxHeartbeats 0 in
theorem b_all_flaws (G : Glb w K mg) : Body P w K mg base (xr K) 0 N_all_flaws "all_flaws" (defScope (T 21)) (defBody (T 21)) m_all_flaws := by
  intro f cd A outer s H E W X tk F hr
  have nd : X.N.Nodup := s_all_flaws.nd
  exact ⟨_, (ss_one (ss_ret (SF.comp2 (sf_comp2 (own := [("net", 1), ("value", 2)]) (own1 := [2]) (te := (tTup (tCons (tVar 1) (tCons (tVar 2) tNil)))) (tt := tYes) (g := (gName 1)) (tt1 := tYes) (g1 := (gName 2)) (wi1 := (iSeqT K (tTup (tCons (tC (.int 0)) (tCons (tC (.int 1)) tNil))))) F (si_rng1 G.u_range (se_add (se_ix F (se_var 0) se_int) (se_len G.u_len (sa_cons (se_ix F (se_var 0) se_int) sa_nil)))) (fun s H Cc cl fp => (sg_name 1)) (fun s H Cc cl fp => st_nil) (fun s H Cc cl fp => (si_seq (se_tup (sa_cons se_int (sa_cons se_int sa_nil))))) (fun s H Cc cl fp => (sg_name 2)) (fun s H Cc cl fp => st_nil) (fun s H Cc cl fp => (se_tup (sa_cons (se_var 1) (sa_cons (se_var 2) sa_nil))))))))⟩
theorem c_all_flaws (G : Glb w K mg) : Cal P w K mg base (xr K) "all_flaws" 1 1 f_all_flaws := by
  obtain ⟨fd, F⟩ := G.D_all_flaws
  exact cal_of F G.a_all_flaws s_all_flaws (fun _ _ _ _ _ _ us hl => match us, hl with | [_], _ => rfl) rfl rfl (b_all_flaws G)
def N_check_flaw : List Str := ["circuit", "flaw"]
theorem s_check_flaw : FnScope N_check_flaw ["circuit", "flaw"] (defScope (T 15)) := ⟨rfl, rfl, rfl, by decide +kernel, rfl, by decide +kernel, by decide +kernel⟩
set_option maxHeartbeats 0 in
theorem b_check_flaw (G : Glb w K mg) : Body P w K mg base (xr K) 0 N_check_flaw "check_flaw" (defScope (T 15)) (defBody (T 15)) m_check_flaw := by
  intro f cd A outer s H E W X tk F hr
  have nd : X.N.Nodup := s_check_flaw.nd
  exact ⟨_, (ss_one (ss_if (sb_w (sw_or (sb_not (sb_chain c_le c_lt se_int (se_ix F (se_var 1) se_int) (se_add (se_ix F (se_var 0) se_int) (se_len G.u_len (sa_cons (se_ix F (se_var 0) se_int) sa_nil))))) (sw_or1 (sb_cmp (c_ni F) (se_ix F (se_var 1) se_int) (se_tup (sa_cons se_int (sa_cons se_int sa_nil))))))) (ss_one (ss_raise tk F.ca G.x_NoSuchThing)) ss_nil))⟩
theorem c_check_flaw (G : Glb w K mg) : Cal P w K mg base (xr K) "check_flaw" 1 2 f_check_flaw := by
  obtain ⟨fd, F⟩ := G.D_check_flaw
  exact cal_of F G.a_check_flaw s_check_flaw (fun _ _ _ _ _ _ us hl => match us, hl with | [_, _], _ => rfl) rfl rfl (b_check_flaw G)
def N_case_bits : List Str := ["circuit", "case", "bits", "k"]
theorem s_case_bits : FnScope N_case_bits ["circuit", "case"] (defScope (T 14)) := ⟨rfl, rfl, rfl, by decide +kernel, rfl, by decide +kernel, by decide +kernel⟩
set_option maxHeartbeats 0 in
theorem b_case_bits (G : Glb w K mg) : Body P w K mg base (xr K) 3 N_case_bits "case_bits" (defScope (T 14)) (defBody (T 14)) m_case_bits := by
  intro f cd A outer s H E W X tk F hr
  have nd : X.N.Nodup := s_case_bits.nd
  exact ⟨_, (ss_cons (ss_if (sb_not (sb_chain c_le c_lt se_int (se_var 1) (se_call (c_case_count G) hr F.le (sa_cons (se_var 0) sa_nil)))) (ss_one (ss_raise tk F.ca G.x_NoSuchThing)) ss_nil)
    (ss_cons (ss_setLc 2 (sfc_comp (own := [("k", 3)]) (te := (tOp rAnd1 (tOp (rI (fun _ j => 0 ≤ j) fun i j => .int (i / 2 ^ j.toNat)) (tVar 1) (tVar 3)) (tC (.int 1)))) (tt := tYes) (g := (gName 3)) F (si_rng1 G.u_range (se_call (c_bit_count G) (hr.mono (by decide)) F.le (sa_cons (se_var 0) sa_nil))) (fun s H Cc cl fp => (sg_name 3)) (fun s H Cc cl fp => st_nil) (fun s H Cc cl fp => (se_and1 (se_shr (se_var 1) (se_var 3)) se_int))))
    (ss_one (ss_ret (se_tup (sa_cons (se_cut (se_var 2) so_none (so_some (se_ix F (se_var 0) se_int))) (sa_cons (se_cut (se_var 2) (so_some (se_ix F (se_var 0) se_int)) so_none) sa_nil)))))))⟩
theorem c_case_bits (G : Glb w K mg) : Cal P w K mg base (xr K) "case_bits" 4 2 f_case_bits := by
  obtain ⟨fd, F⟩ := G.D_case_bits
  exact cal_of F G.a_case_bits s_case_bits (fun _ _ _ _ _ _ us hl => match us, hl with | [_, _], _ => rfl) rfl rfl (b_case_bits G)
def N_cell_value : List Str := ["kind", "values", "value"]
theorem s_cell_value : FnScope N_cell_value ["kind", "values"] (defScope (T 7)) := ⟨rfl, rfl, rfl, by decide +kernel, rfl, by decide +kernel, by decide +kernel⟩
set_option maxHeartbeats 0 in
theorem b_cell_value (G : Glb w K mg) : Body P w K mg base (xr K) 0 N_cell_value "cell_value" (defScope (T 7)) (defBody (T 7)) m_cell_value := by
  intro f cd A outer s H E W X tk F hr
  have nd : X.N.Nodup := s_cell_value.nd
  exact ⟨_, (ss_cons (ss_if (sb_kin G.a_CONSTANTS G.g_CONSTANTS (se_var 0)) (ss_one (ss_ret (se_kget G.a_CONSTANTS G.g_CONSTANTS (se_var 0)))) ss_nil)
    (ss_cons (ss_if (sb_cmp (c_in F) (se_var 0) (se_gv G.g_NANDS)) (ss_one (ss_ret (se_intOf G.u_int (sa_cons (se_not (se_all F G.u_all (sa_cons (SF.comp (sf_comp (own := [("value", 2)]) (te := (tOp (rEqV K) (tVar 2) (tC (.int 1)))) (tt := tYes) (g := (gName 2)) F (si_seq (se_var 1)) (fun s H Cc cl fp => (sg_name 2)) (fun s H Cc cl fp => st_nil) (fun s H Cc cl fp => (se_cmp (c_eq (F.blk _ _ _ _ _)) (se_var 2) se_int)))) sa_nil))) sa_nil)))) ss_nil)
    (ss_one (ss_ret (se_intOf G.u_int (sa_cons (se_not (se_any F G.u_any (sa_cons (SF.comp (sf_comp (own := [("value", 2)]) (te := (tOp (rEqV K) (tVar 2) (tC (.int 1)))) (tt := tYes) (g := (gName 2)) F (si_seq (se_var 1)) (fun s H Cc cl fp => (sg_name 2)) (fun s H Cc cl fp => st_nil) (fun s H Cc cl fp => (se_cmp (c_eq (F.blk _ _ _ _ _)) (se_var 2) se_int)))) sa_nil))) sa_nil))))))⟩
theorem c_cell_value (G : Glb w K mg) : Cal P w K mg base (xr K) "cell_value" 1 2 f_cell_value := by
  obtain ⟨fd, F⟩ := G.D_cell_value
  exact cal_of F G.a_cell_value s_cell_value (fun _ _ _ _ _ _ us hl => match us, hl with | [_, _], _ => rfl) rfl rfl (b_cell_value G)
def N_settled_values : List Str := ["circuit", "inputs", "states", "stuck", "values", "left", "kind", "sources", "output", "value", "net", "bit"]
theorem s_settled_values : FnScope N_settled_values ["circuit", "inputs", "states", "stuck"] (defScope (T 10)) := ⟨rfl, rfl, rfl, by decide +kernel, rfl, by decide +kernel, by decide +kernel⟩
set_option maxHeartbeats 0 in
theorem b_settled_values (G : Glb w K mg) : Body P w K mg base (xr K) 1 N_settled_values "settled_values" (defScope (T 10)) (defBody (T 10)) m_settled_values := by
  intro f cd A outer s H E W X tk F hr
  have nd : X.N.Nodup := s_settled_values.nd
  exact ⟨_, (ss_cons (ss_own 4 (sf_comp (own := [("net", 10), ("bit", 11)]) (te := (tDGet2 (tVar 3) (tVar 10) (tVar 11))) (tt := tYes) (g := (gTup K 2 (gCons (gName 10) (gCons (gName 11) gNil)))) F (si_enum G.u_enumerate (se_var 1)) (fun s H Cc cl fp => (sg_tup (F.blk _ _ _ _ _) (sgs_cons (sg_name 10) (sgs_cons (sg_name 11) sgs_nil)))) (fun s H Cc cl fp => st_nil) (fun s H Cc cl fp => (se_get2 (F.blk _ _ _ _ _) (se_var 3) (se_var 10) (se_var 11)))))
    (ss_cons (ss_own 5 (sf_listOf G.u_list (sa_cons (se_var 2) sa_nil)))
    (ss_cons (ss_for F (si_seq (se_ix F (se_var 0) se_int)) (sg_tup F (sgs_cons (sg_name 6) (sgs_cons (sg_name 7) (sgs_cons (sg_name 8) sgs_nil)))) (ss_cons (ss_if (sb_cmp (c_eq F) (se_var 6) se_str) (ss_one (ss_popAtTo 5 9 (pe_popAt 5 se_int))) (ss_one (ss_setN 9 (se_call (c_cell_value G) hr F.le (sa_cons (se_var 6) (sa_cons (SF.comp (sf_comp (own := [("net", 10)]) (te := (tOp (rIxV K) (tVar 4) (tVar 10))) (tt := tYes) (g := (gName 10)) F (si_seq (se_var 7)) (fun s H Cc cl fp => (sg_name 10)) (fun s H Cc cl fp => st_nil) (fun s H Cc cl fp => (se_ix (F.blk _ _ _ _ _) (se_var 4) (se_var 10))))) sa_nil))))))
    (ss_one (ss_app 4 (se_get2 F (se_var 3) (se_var 8) (se_var 9))))))
    (ss_freeze 4 (ss_one (ss_ret (se_var 4)))))))⟩
theorem c_settled_values (G : Glb w K mg) : Cal P w K mg base (xr K) "settled_values" 2 4 f_settled_values := by
  obtain ⟨fd, F⟩ := G.D_settled_values
  exact cal_of F G.a_settled_values s_settled_values (fun _ _ _ _ _ _ us hl => match us, hl with | [_, _, _, _], _ => rfl) rfl rfl (b_settled_values G)
def N_answers : List Str := ["circuit", "case", "stuck", "values", "ends", "inputs", "states", "net", "cell"]
theorem s_answers : FnScope N_answers ["circuit", "case", "stuck"] (defScope (T 16)) := ⟨rfl, rfl, rfl, by decide +kernel, rfl, by decide +kernel, by decide +kernel⟩
set_option maxHeartbeats 0 in
theorem b_answers (G : Glb w K mg) : Body P w K mg base (xr K) 4 N_answers "answers" (defScope (T 16)) (defBody (T 16)) m_answers := by
  intro f cd A outer s H E W X tk F hr
  have nd : X.N.Nodup := s_answers.nd
  exact ⟨_, (ss_cons (ss_put (sg_tup F (sgs_cons (sg_name 5) (sgs_cons (sg_name 6) sgs_nil))) nx_pTup (se_call (c_case_bits G) hr F.le (sa_cons (se_var 0) (sa_cons (se_var 1) sa_nil))))
    (ss_cons (ss_set 3 (se_call (c_settled_values G) (hr.mono (by decide)) F.le (sa_cons (se_var 0) (sa_cons (se_var 5) (sa_cons (se_var 6) (sa_cons (se_var 2) sa_nil))))))
    (ss_cons (ss_set 4 (se_add (se_listOf G.u_list (sa_cons (se_ix F (se_var 0) se_int) sa_nil)) (SF.comp (sf_comp (own := [("cell", 8)]) (te := (tOp (rIxV K) (tOp (rIxV K) (tVar 8) (tC (.int 1))) (tC (.int 0)))) (tt := tYes) (g := (gName 8)) F (si_seq (se_call (c_latch_cells G) (hr.mono (by decide)) F.le (sa_cons (se_var 0) sa_nil))) (fun s H Cc cl fp => (sg_name 8)) (fun s H Cc cl fp => st_nil) (fun s H Cc cl fp => (se_ix (F.blk _ _ _ _ _) (se_ix (F.blk _ _ _ _ _) (se_var 8) se_int) se_int))))))
    (ss_one (ss_ret (SF.comp (sf_comp (own := [("net", 7)]) (te := (tOp (rIxV K) (tVar 3) (tVar 7))) (tt := tYes) (g := (gName 7)) F (si_seq (se_var 4)) (fun s H Cc cl fp => (sg_name 7)) (fun s H Cc cl fp => st_nil) (fun s H Cc cl fp => (se_ix (F.blk _ _ _ _ _) (se_var 3) (se_var 7))))))))))⟩
theorem c_answers (G : Glb w K mg) : Cal P w K mg base (xr K) "answers" 5 3 f_answers := by
  obtain ⟨fd, F⟩ := G.D_answers
  exact cal_of F G.a_answers s_answers (fun _ _ _ _ _ _ us hl => match us, hl with | [_, _, _], _ => rfl) rfl rfl (b_answers G)
def N_shows : List Str := ["circuit", "flaw", "case"]
theorem s_shows : FnScope N_shows ["circuit", "flaw", "case"] (defScope (T 17)) := ⟨rfl, rfl, rfl, by decide +kernel, rfl, by decide +kernel, by decide +kernel⟩
set_option maxHeartbeats 0 in
theorem b_shows (G : Glb w K mg) : Body P w K mg base (xr K) 5 N_shows "shows" (defScope (T 17)) (defBody (T 17)) m_shows := by
  intro f cd A outer s H E W X tk F hr
  have nd : X.N.Nodup := s_shows.nd
  exact ⟨_, (ss_cons (ss_expr (se_call (c_check_flaw G) (hr.mono (by decide)) F.le (sa_cons (se_var 0) (sa_cons (se_var 1) sa_nil))))
    (ss_one (ss_ret (se_cmp (c_ne F) (se_call (c_answers G) hr F.le (sa_cons (se_var 0) (sa_cons (se_var 2) (sa_cons (se_dictV (spv_cons (se_ix F (se_var 1) se_int) (se_ix F (se_var 1) se_int) spv_nil)) sa_nil)))) (se_call (c_answers G) hr F.le (sa_cons (se_var 0) (sa_cons (se_var 2) (sa_cons se_dict0 sa_nil))))))))⟩
theorem c_shows (G : Glb w K mg) : Cal P w K mg base (xr K) "shows" 6 3 f_shows := by
  obtain ⟨fd, F⟩ := G.D_shows
  exact cal_of F G.a_shows s_shows (fun _ _ _ _ _ _ us hl => match us, hl with | [_, _, _], _ => rfl) rfl rfl (b_shows G)
def N_make_tests : List Str := ["circuit", "shown", "case", "tests", "counts", "seen", "flaws", "flaw"]
theorem s_make_tests : FnScope N_make_tests ["circuit"] (defScope (T 24)) := ⟨rfl, rfl, rfl, by decide +kernel, rfl, by decide +kernel, by decide +kernel⟩
set_option maxHeartbeats 0 in
theorem b_make_tests (G : Glb w K mg) : Body P w K mg base (xr K) 6 N_make_tests "make_tests" (defScope (T 24)) (defBody (T 24)) m_make_tests := by
  intro f cd A outer s H E W X tk F hr
  have nd : X.N.Nodup := s_make_tests.nd
  exact ⟨_, (ss_cons (ss_expr (se_call (c_check_size G) (hr.mono (by decide)) F.le (sa_cons (se_var 0) sa_nil)))
    (ss_cons (ss_own 1 (sf_lst sa_nil))
    (ss_cons (ss_for F (si_rng1 G.u_range (se_call (c_case_count G) (hr.mono (by decide)) F.le (sa_cons (se_var 0) sa_nil))) (sg_name 2) (ss_one (ss_app 1 (SF.comp (sf_comp (own := [("flaw", 7)]) (te := (tVar 7)) (tt := (tTru K (tCallS (spF K (xr K) 3 f_shows) (CE (C0 ⟨xr K, some W⟩)) (tCons (tVar 0) (tCons (tVar 7) (tCons (tVar 2) tNil)))))) (g := (gName 7)) F (si_seq (se_call (c_all_flaws G) (hr.mono (by decide)) F.le (sa_cons (se_var 0) sa_nil))) (fun s H Cc cl fp => (sg_name 7)) (fun s H Cc cl fp => (st_one (sb_tru (se_call (c_shows G) hr (F.blk _ _ _ _ _).le (sa_cons (se_var 0) (sa_cons (se_var 7) (sa_cons (se_var 2) sa_nil))))))) (fun s H Cc cl fp => (se_var 7)))))))
    (ss_freeze 1 (ss_cons (ss_own 3 (sf_lst sa_nil))
    (ss_cons (ss_setLc 4 (sfc_comp (own := [("flaws", 6)]) (te := (tCB (rLenC K) (tCons (tVar 6) tNil))) (tt := tYes) (g := (gName 6)) F (si_seq (se_var 1)) (fun s H Cc cl fp => (sg_name 6)) (fun s H Cc cl fp => st_nil) (fun s H Cc cl fp => (se_len G.u_len (sa_cons (se_var 6) sa_nil)))))
    (ss_cons (ss_while 100000 F (sb_cmp c_gt (se_max F G.u_max (sa_cons (se_var 4) sa_nil)) se_int) (ss_cons (ss_set 2 (se_index (se_var 4) (se_max F G.u_max (sa_cons (se_var 4) sa_nil))))
    (ss_cons (ss_app 3 (se_var 2))
    (ss_cons (ss_set 5 (se_dcT (sdc_dcT (own := [("flaw", 7)]) (tk := (tVar 7)) (tv := (tC (.bl true))) (tt := tYes) (g := (gName 7)) F G.kt_Pairs (si_seq (se_ix F (se_var 1) (se_var 2))) (fun s H Cc cl fp => (sg_name 7)) (fun s H Cc cl fp => st_nil) (fun s H Cc cl fp => (se_var 7)) (fun s H Cc cl fp => se_bl))))
    (ss_cons (ss_setLc 1 (sfc_comp (own := [("flaws", 6)]) (te := (tLc (iSeqT K (tVar 6)) (gName 7) (tTest (tOp (rNotInW K) (tVar 7) (tVar 5))) (tVar 7) [7])) (tt := tYes) (g := (gName 6)) F (si_seq (se_var 1)) (fun s H Cc cl fp => (sg_name 6)) (fun s H Cc cl fp => st_nil) (fun s H Cc cl fp => (SF.comp (sf_comp (own := [("flaw", 7)]) (te := (tVar 7)) (tt := (tTest (tOp (rNotInW K) (tVar 7) (tVar 5)))) (g := (gName 7)) (F.blk _ _ _ _ _) (si_seq (se_var 6)) (fun s H Cc cl fp => (sg_name 7)) (fun s H Cc cl fp => (st_one (sb_cmp (c_niT ((F.blk _ _ _ _ _).blk _ _ _ _ _) G.kt_Pairs) (se_var 7) (se_var 5)))) (fun s H Cc cl fp => (se_var 7)))))))
    (ss_one (ss_setLc 4 (sfc_comp (own := [("flaws", 6)]) (te := (tCB (rLenC K) (tCons (tVar 6) tNil))) (tt := tYes) (g := (gName 6)) F (si_seq (se_var 1)) (fun s H Cc cl fp => (sg_name 6)) (fun s H Cc cl fp => st_nil) (fun s H Cc cl fp => (se_len G.u_len (sa_cons (se_var 6) sa_nil)))))))))))
    (ss_freeze 3 (ss_one (ss_ret (se_var 3)))))))))))⟩
theorem c_make_tests (G : Glb w K mg) : Cal P w K mg base (xr K) "make_tests" 7 1 f_make_tests := by
  obtain ⟨fd, F⟩ := G.D_make_tests
  exact cal_of F G.a_make_tests s_make_tests (fun _ _ _ _ _ _ us hl => match us, hl with | [_], _ => rfl) rfl rfl (b_make_tests G)
def N__law_cases : List Str := ["_law_circuit_here", "_law_count", "_law_k", "_law_cell_here"]
theorem s__law_cases : FnScope N__law_cases ["_law_circuit_here"] (defScope (T 34)) := ⟨rfl, rfl, rfl, by decide +kernel, rfl, by decide +kernel, by decide +kernel⟩
set_option maxHeartbeats 0 in
theorem b__law_cases (G : Glb w K mg) : Body P w K mg base (xr K) 0 N__law_cases "_law_cases" (defScope (T 34)) (defBody (T 34)) m__law_cases := by
  intro f cd A outer s H E W X tk F hr
  have nd : X.N.Nodup := s__law_cases.nd
  exact ⟨_, (ss_cons (ss_set 1 se_int)
    (ss_cons (ss_for F (si_rng1 G.u_range (se_add (se_ix F (se_var 0) se_int) (se_len G.u_len (sa_cons (SF.comp (sf_comp (own := [("_law_cell_here", 3)]) (te := (tC (.int 1))) (tt := (tTest (tOp (rEqV K) (tOp (rIxV K) (tVar 3) (tC (.int 0))) (tC (.str "latch"))))) (g := (gName 3)) F (si_seq (se_ix F (se_var 0) se_int)) (fun s H Cc cl fp => (sg_name 3)) (fun s H Cc cl fp => (st_one (sb_cmp (c_eq (F.blk _ _ _ _ _)) (se_ix (F.blk _ _ _ _ _) (se_var 3) se_int) se_str))) (fun s H Cc cl fp => se_int))) sa_nil)))) (sg_name 2) (ss_one (ss_set 1 (se_mul (se_var 1) se_int))))
    (ss_one (ss_ret (se_var 1)))))⟩
theorem c__law_cases (G : Glb w K mg) : Cal P w K mg base (xr K) "_law_cases" 1 1 f__law_cases := by
  obtain ⟨fd, F⟩ := G.D__law_cases
  exact cal_of F G.a__law_cases s__law_cases (fun _ _ _ _ _ _ us hl => match us, hl with | [_], _ => rfl) rfl rfl (b__law_cases G)
def N__law_value : List Str := ["_law_kind_here", "_law_bits"]
theorem s__law_value : FnScope N__law_value ["_law_kind_here", "_law_bits"] (defScope (T 32)) := ⟨rfl, rfl, rfl, by decide +kernel, rfl, by decide +kernel, by decide +kernel⟩
set_option maxHeartbeats 0 in
theorem b__law_value (G : Glb w K mg) : Body P w K mg base (xr K) 0 N__law_value "_law_value" (defScope (T 32)) (defBody (T 32)) m__law_value := by
  intro f cd A outer s H E W X tk F hr
  have nd : X.N.Nodup := s__law_value.nd
  exact ⟨_, (ss_cons (ss_if (sb_cmp (c_eq F) (se_cut (se_var 0) so_none (so_some se_int)) se_str) (ss_one (ss_ret (se_intOf G.u_int (sa_cons (se_ix F (se_var 0) se_int) sa_nil)))) ss_nil)
    (ss_cons (ss_if (sb_cmp (c_eq F) (se_cut (se_var 0) so_none (so_some se_int)) se_str) (ss_one (ss_ret (se_intOf G.u_int (sa_cons (se_cmp (c_eq F) (se_sum F G.u_sum (sa_cons (se_var 1) sa_nil)) se_int) sa_nil)))) ss_nil)
    (ss_one (ss_ret (se_intOf G.u_int (sa_cons (se_cmp c_lt (se_sum F G.u_sum (sa_cons (se_var 1) sa_nil)) (se_len G.u_len (sa_cons (se_var 1) sa_nil))) sa_nil))))))⟩
theorem c__law_value (G : Glb w K mg) : Cal P w K mg base (xr K) "_law_value" 1 2 f__law_value := by
  obtain ⟨fd, F⟩ := G.D__law_value
  exact cal_of F G.a__law_value s__law_value (fun _ _ _ _ _ _ us hl => match us, hl with | [_, _], _ => rfl) rfl rfl (b__law_value G)
def N__law_answers : List Str := ["_law_circuit_here", "_law_case", "_law_net", "_law_value_here", "_law_nets", "_law_count", "_law_k", "_law_cell_here", "_law_ends", "_law_end", "_law_source"]
theorem s__law_answers : FnScope N__law_answers ["_law_circuit_here", "_law_case", "_law_net", "_law_value_here"] (defScope (T 33)) := ⟨rfl, rfl, rfl, by decide +kernel, rfl, by decide +kernel, by decide +kernel⟩
set_option maxHeartbeats 0 in
theorem b__law_answers (G : Glb w K mg) : Body P w K mg base (xr K) 1 N__law_answers "_law_answers" (defScope (T 33)) (defBody (T 33)) m__law_answers := by
  intro f cd A outer s H E W X tk F hr
  have nd : X.N.Nodup := s__law_answers.nd
  exact ⟨_, (ss_cons (ss_own 4 (sf_lst sa_nil))
    (ss_cons (ss_set 5 (se_ix F (se_var 0) se_int))
    (ss_cons (ss_for F (si_rng1 G.u_range (se_var 5)) (sg_name 6) (ss_one (ss_app 4 (se_sub (se_div (se_var 1) (se_ix F (se_lst (sa_cons se_int (sa_cons se_int (sa_cons se_int (sa_cons se_int (sa_cons se_int (sa_cons se_int (sa_cons se_int sa_nil)))))))) (se_var 6))) (se_mul (se_div (se_var 1) (se_ix F (se_lst (sa_cons se_int (sa_cons se_int (sa_cons se_int (sa_cons se_int (sa_cons se_int (sa_cons se_int (sa_cons se_int sa_nil)))))))) (se_var 6))) se_int)))))
    (ss_cons (ss_if (sb_w (sw_and (sb_cmp c_ge (se_var 2) se_int) (sw_and1 (sb_cmp c_lt (se_var 2) (se_var 5))))) (ss_one (ss_item 4 (se_var 3) (se_var 2))) ss_nil)
    (ss_cons (ss_for F (si_seq (se_ix F (se_var 0) se_int)) (sg_name 7) (ss_cons (ss_if (sb_cmp (c_eq F) (se_ix F (se_var 7) se_int) se_str) (ss_cons (ss_app 4 (se_sub (se_div (se_var 1) (se_ix F (se_lst (sa_cons se_int (sa_cons se_int (sa_cons se_int (sa_cons se_int (sa_cons se_int (sa_cons se_int (sa_cons se_int sa_nil)))))))) (se_var 5))) (se_mul (se_div (se_var 1) (se_ix F (se_lst (sa_cons se_int (sa_cons se_int (sa_cons se_int (sa_cons se_int (sa_cons se_int (sa_cons se_int (sa_cons se_int sa_nil)))))))) (se_var 5))) se_int)))
    (ss_one (ss_set 5 (se_add (se_var 5) se_int)))) (ss_one (ss_appN 4 (se_call (c__law_value G) hr F.le (sa_cons (se_ix F (se_var 7) se_int) (sa_cons (SF.comp (sf_comp (own := [("_law_source", 10)]) (te := (tOp (rIxV K) (tVar 4) (tVar 10))) (tt := tYes) (g := (gName 10)) F (si_seq (se_ix F (se_var 7) se_int)) (fun s H Cc cl fp => (sg_name 10)) (fun s H Cc cl fp => st_nil) (fun s H Cc cl fp => (se_ix (F.blk _ _ _ _ _) (se_var 4) (se_var 10))))) sa_nil))))))
    (ss_one (ss_if (sb_cmp (c_eq F) (se_ix F (se_var 7) se_int) (se_var 2)) (ss_one (ss_item 4 (se_var 3) (se_var 2))) ss_nil))))
    (ss_freeze 4 (ss_cons (ss_set 8 (se_add (se_listOf G.u_list (sa_cons (se_ix F (se_var 0) se_int) sa_nil)) (SF.comp (sf_comp (own := [("_law_cell_here", 7)]) (te := (tOp (rIxV K) (tOp (rIxV K) (tVar 7) (tC (.int 1))) (tC (.int 0)))) (tt := (tTest (tOp (rEqV K) (tOp (rIxV K) (tVar 7) (tC (.int 0))) (tC (.str "latch"))))) (g := (gName 7)) F (si_seq (se_ix F (se_var 0) se_int)) (fun s H Cc cl fp => (sg_name 7)) (fun s H Cc cl fp => (st_one (sb_cmp (c_eq (F.blk _ _ _ _ _)) (se_ix (F.blk _ _ _ _ _) (se_var 7) se_int) se_str))) (fun s H Cc cl fp => (se_ix (F.blk _ _ _ _ _) (se_ix (F.blk _ _ _ _ _) (se_var 7) se_int) se_int))))))
    (ss_one (ss_ret (SF.comp (sf_comp (own := [("_law_end", 9)]) (te := (tOp (rIxV K) (tVar 4) (tVar 9))) (tt := tYes) (g := (gName 9)) F (si_seq (se_var 8)) (fun s H Cc cl fp => (sg_name 9)) (fun s H Cc cl fp => st_nil) (fun s H Cc cl fp => (se_ix (F.blk _ _ _ _ _) (se_var 4) (se_var 9))))))))))))))⟩
theorem c__law_answers (G : Glb w K mg) : Cal P w K mg base (xr K) "_law_answers" 2 4 f__law_answers := by
  obtain ⟨fd, F⟩ := G.D__law_answers
  exact cal_of F G.a__law_answers s__law_answers (fun _ _ _ _ _ _ us hl => match us, hl with | [_, _, _, _], _ => rfl) rfl rfl (b__law_answers G)
def N__law_shown : List Str := ["_law_circuit_here", "_law_shown_here", "_law_case", "_law_plain", "_law_row", "_law_net", "_law_value_here"]
theorem s__law_shown : FnScope N__law_shown ["_law_circuit_here"] (defScope (T 36)) := ⟨rfl, rfl, rfl, by decide +kernel, rfl, by decide +kernel, by decide +kernel⟩
set_option maxHeartbeats 0 in
theorem b__law_shown (G : Glb w K mg) : Body P w K mg base (xr K) 2 N__law_shown "_law_shown" (defScope (T 36)) (defBody (T 36)) m__law_shown := by
  intro f cd A outer s H E W X tk F hr
  have nd : X.N.Nodup := s__law_shown.nd
  exact ⟨_, (ss_cons (ss_own 1 (sf_lst sa_nil))
    (ss_cons (ss_for F (si_rng1 G.u_range (se_call (c__law_cases G) (hr.mono (by decide)) F.le (sa_cons (se_var 0) sa_nil))) (sg_name 2) (ss_cons (ss_set 3 (se_call (c__law_answers G) hr F.le (sa_cons (se_var 0) (sa_cons (se_var 2) (sa_cons (se_neg se_int) (sa_cons se_int sa_nil))))))
    (ss_cons (ss_own 4 (sf_lst sa_nil))
    (ss_cons (ss_for F (si_rng1 G.u_range (se_add (se_ix F (se_var 0) se_int) (se_len G.u_len (sa_cons (se_ix F (se_var 0) se_int) sa_nil)))) (sg_name 5) (ss_one (ss_for F (si_rng1 G.u_range se_int) (sg_name 6) (ss_one (ss_if (sb_cmp (c_ne F) (se_call (c__law_answers G) hr F.le (sa_cons (se_var 0) (sa_cons (se_var 2) (sa_cons (se_var 5) (sa_cons (se_var 6) sa_nil))))) (se_var 3)) (ss_one (ss_app 4 (se_tup (sa_cons (se_var 5) (sa_cons (se_var 6) sa_nil))))) ss_nil)))))
    (ss_freeze 4 (ss_one (ss_app 1 (se_var 4))))))))
    (ss_freeze 1 (ss_one (ss_ret (se_var 1))))))⟩
theorem c__law_shown (G : Glb w K mg) : Cal P w K mg base (xr K) "_law_shown" 3 1 f__law_shown := by
  obtain ⟨fd, F⟩ := G.D__law_shown
  exact cal_of F G.a__law_shown s__law_shown (fun _ _ _ _ _ _ us hl => match us, hl with | [_], _ => rfl) rfl rfl (b__law_shown G)
def N_first_case : List Str := ["circuit", "flaw", "case"]
theorem s_first_case : FnScope N_first_case ["circuit", "flaw"] (defScope (T 22)) := ⟨rfl, rfl, rfl, by decide +kernel, rfl, by decide +kernel, by decide +kernel⟩
set_option maxHeartbeats 0 in
theorem b_first_case (G : Glb w K mg) : Body P w K mg base (xr K) 6 N_first_case "first_case" (defScope (T 22)) (defBody (T 22)) m_first_case := by
  intro f cd A outer s H E W X tk F hr
  have nd : X.N.Nodup := s_first_case.nd
  exact ⟨_, (ss_cons (ss_expr (se_call (c_check_size G) (hr.mono (by decide)) F.le (sa_cons (se_var 0) sa_nil)))
    (ss_cons (ss_expr (se_call (c_check_flaw G) (hr.mono (by decide)) F.le (sa_cons (se_var 0) (sa_cons (se_var 1) sa_nil))))
    (ss_cons (ss_for F (si_rng1 G.u_range (se_call (c_case_count G) (hr.mono (by decide)) F.le (sa_cons (se_var 0) sa_nil))) (sg_name 2) (ss_one (ss_if (sb_tru (se_call (c_shows G) hr F.le (sa_cons (se_var 0) (sa_cons (se_var 1) (sa_cons (se_var 2) sa_nil))))) (ss_one (ss_ret (se_var 2))) ss_nil)))
    (ss_one (ss_ret se_non)))))⟩
theorem c_first_case (G : Glb w K mg) : Cal P w K mg base (xr K) "first_case" 7 2 f_first_case := by
  obtain ⟨fd, F⟩ := G.D_first_case
  exact cal_of F G.a_first_case s_first_case (fun _ _ _ _ _ _ us hl => match us, hl with | [_, _], _ => rfl) rfl rfl (b_first_case G)
def N_hidden_flaws : List Str := ["circuit", "flaw"]
theorem s_hidden_flaws : FnScope N_hidden_flaws ["circuit"] (defScope (T 23)) := ⟨rfl, rfl, rfl, by decide +kernel, rfl, by decide +kernel, by decide +kernel⟩
set_option maxHeartbeats 0 in
theorem b_hidden_flaws (G : Glb w K mg) : Body P w K mg base (xr K) 7 N_hidden_flaws "hidden_flaws" (defScope (T 23)) (defBody (T 23)) m_hidden_flaws := by
  intro f cd A outer s H E W X tk F hr
  have nd : X.N.Nodup := s_hidden_flaws.nd
  exact ⟨_, (ss_cons (ss_expr (se_call (c_check_size G) (hr.mono (by decide)) F.le (sa_cons (se_var 0) sa_nil)))
    (ss_one (ss_ret (SF.comp (sf_comp (own := [("flaw", 1)]) (te := (tVar 1)) (tt := (tTest (tOp rIsN (tCallS (spF K (xr K) 2 f_first_case) (CE (C0 ⟨xr K, some W⟩)) (tCons (tVar 0) (tCons (tVar 1) tNil))) (tC .non)))) (g := (gName 1)) F (si_seq (se_call (c_all_flaws G) (hr.mono (by decide)) F.le (sa_cons (se_var 0) sa_nil))) (fun s H Cc cl fp => (sg_name 1)) (fun s H Cc cl fp => (st_one (sb_cmp c_is (se_call (c_first_case G) hr (F.blk _ _ _ _ _).le (sa_cons (se_var 0) (sa_cons (se_var 1) sa_nil))) se_non))) (fun s H Cc cl fp => (se_var 1)))))))⟩
theorem c_hidden_flaws (G : Glb w K mg) : Cal P w K mg base (xr K) "hidden_flaws" 8 1 f_hidden_flaws := by
  obtain ⟨fd, F⟩ := G.D_hidden_flaws
  exact cal_of F G.a_hidden_flaws s_hidden_flaws (fun _ _ _ _ _ _ us hl => match us, hl with | [_], _ => rfl) rfl rfl (b_hidden_flaws G)
def N__law_refuses : List Str := ["_law_circuit_here", "_law_count", "e"]
theorem s__law_refuses : FnScope N__law_refuses ["_law_circuit_here"] (defScope (T 35)) := ⟨rfl, rfl, rfl, by decide +kernel, rfl, by decide +kernel, by decide +kernel⟩
set_option maxHeartbeats 0 in
theorem b__law_refuses (G : Glb w K mg) : Body P w K mg base (xr K) 8 N__law_refuses "_law_refuses" (defScope (T 35)) (defBody (T 35)) m__law_refuses := by
  intro f cd A outer s H E W X tk F hr
  have nd : X.N.Nodup := s__law_refuses.nd
  exact ⟨_, (ss_cons (ss_set 1 se_int)
    (ss_cons (ss_tryAs 2 F tk hr G.x_GatesError G.t_GatesError (fun W pn xe tk F hr => (ss_one (ss_expr (se_call (c_make_tests G) (hr.mono (by decide)) F.le (sa_cons (se_var 0) sa_nil))))) (fun q a oe pn hz hf => (si_setN 1 (ei_add (se_var 1) (ei_int G.u_int (ei_isE G.i_TooLarge hz hf G.u_isinstance))))))
    (ss_cons (ss_tryAs 2 F tk hr G.x_GatesError G.t_GatesError (fun W pn xe tk F hr => (ss_one (ss_expr (se_call (c_hidden_flaws G) hr F.le (sa_cons (se_var 0) sa_nil))))) (fun q a oe pn hz hf => (si_setN 1 (ei_add (se_var 1) (ei_int G.u_int (ei_isE G.i_TooLarge hz hf G.u_isinstance))))))
    (ss_cons (ss_tryAs 2 F tk hr G.x_GatesError G.t_GatesError (fun W pn xe tk F hr => (ss_one (ss_expr (se_call (c_first_case G) (hr.mono (by decide)) F.le (sa_cons (se_var 0) (sa_cons (se_tup (sa_cons se_int (sa_cons se_int sa_nil))) sa_nil)))))) (fun q a oe pn hz hf => (si_setN 1 (ei_add (se_var 1) (ei_int G.u_int (ei_isE G.i_TooLarge hz hf G.u_isinstance))))))
    (ss_one (ss_ret (se_cmp (c_eq F) (se_var 1) se_int)))))))⟩
theorem c__law_refuses (G : Glb w K mg) : Cal P w K mg base (xr K) "_law_refuses" 9 1 f__law_refuses := by
  obtain ⟨fd, F⟩ := G.D__law_refuses
  exact cal_of F G.a__law_refuses s__law_refuses (fun _ _ _ _ _ _ us hl => match us, hl with | [_], _ => rfl) rfl rfl (b__law_refuses G)
def N__law_kind : List Str := ["_law_parts_here", "_law_nets", "_law_latches", "_law_kinds", "_law_kind_here"]
theorem s__law_kind : FnScope N__law_kind ["_law_parts_here", "_law_nets", "_law_latches"] (defScope (T 29)) := ⟨rfl, rfl, rfl, by decide +kernel, rfl, by decide +kernel, by decide +kernel⟩
set_option maxHeartbeats 0 in
theorem b__law_kind (G : Glb w K mg) : Body P w K mg base (xr K) 0 N__law_kind "_law_kind" (defScope (T 29)) (defBody (T 29)) m__law_kind := by
  intro f cd A outer s H E W X tk F hr
  have nd : X.N.Nodup := s__law_kind.nd
  exact ⟨_, (ss_cons (ss_set 3 (se_lst (sa_cons se_str (sa_cons se_str (sa_cons se_str (sa_cons se_str (sa_cons se_str (sa_cons se_str (sa_cons se_str (sa_cons se_str (sa_cons se_str (sa_cons se_str (sa_cons se_str (sa_cons se_str sa_nil))))))))))))))
    (ss_cons (ss_set 4 (se_ix F (se_add (se_var 3) (se_lst (sa_cons se_str (sa_cons se_str (sa_cons se_str (sa_cons se_str sa_nil)))))) (se_ix F (se_var 0) se_int)))
    (ss_cons (ss_if (sb_w (sw_and (sb_cmp (c_eq F) (se_var 4) se_str) (sw_and1 (sb_cmp (c_eq F) (se_var 2) se_int)))) (ss_one (ss_set 4 se_str)) ss_nil)
    (ss_cons (ss_if (sb_w (sw_and (sb_cmp (c_eq F) (se_var 1) se_int) (sw_and1 (sb_cmp (c_ne F) (se_var 4) se_str)))) (ss_one (ss_ret (se_ix F (se_lst (sa_cons se_str (sa_cons se_str sa_nil))) (se_mod (se_intOf G.u_int (sa_cons (se_ix F (se_var 0) se_int) sa_nil)) se_int)))) ss_nil)
    (ss_cons (ss_if (sb_w (sw_and (sb_cmp (c_in F) (se_var 4) (se_lst (sa_cons se_str (sa_cons se_str (sa_cons se_str (sa_cons se_str sa_nil)))))) (sw_and1 (sb_cmp c_lt (se_var 1) (se_intOf G.u_int (sa_cons (se_ix F (se_var 4) (se_neg se_int)) sa_nil)))))) (ss_one (ss_ret (se_ix F (se_lst (sa_cons se_str (sa_cons se_str sa_nil))) (se_sub (se_var 1) se_int)))) ss_nil)
    (ss_one (ss_ret (se_var 4))))))))⟩
theorem c__law_kind (G : Glb w K mg) : Cal P w K mg base (xr K) "_law_kind" 1 3 f__law_kind := by
  obtain ⟨fd, F⟩ := G.D__law_kind
  exact cal_of F G.a__law_kind s__law_kind (fun _ _ _ _ _ _ us hl => match us, hl with | [_, _, _], _ => rfl) rfl rfl (b__law_kind G)
def N__law_drawn : List Str := ["_law_parts_here", "_law_count", "_law_nets", "_law_left", "_law_drawn_here", "_law_k"]
theorem s__law_drawn : FnScope N__law_drawn ["_law_parts_here", "_law_count", "_law_nets"] (defScope (T 30)) := ⟨rfl, rfl, rfl, by decide +kernel, rfl, by decide +kernel, by decide +kernel⟩
set_option maxHeartbeats 0 in
theorem b__law_drawn (G : Glb w K mg) : Body P w K mg base (xr K) 0 N__law_drawn "_law_drawn" (defScope (T 30)) (defBody (T 30)) m__law_drawn := by
  intro f cd A outer s H E W X tk F hr
  have nd : X.N.Nodup := s__law_drawn.nd
  exact ⟨_, (ss_cons (ss_own 3 (sf_listRg1 F G.u_list G.u_range (se_var 2)))
    (ss_cons (ss_own 4 (sf_lst sa_nil))
    (ss_cons (ss_for F (si_rng1 G.u_range (se_var 1)) (sg_name 5) (ss_one (ss_appPop 4 3 (pe_popAt 3 (se_mod (se_intOf G.u_int (sa_cons (se_ix F (se_var 0) (se_add se_int (se_var 5))) sa_nil)) (se_len G.u_len (sa_cons (se_var 3) sa_nil)))))))
    (ss_freeze 4 (ss_one (ss_ret (se_tupOf G.u_tuple (sa_cons (se_var 4) sa_nil))))))))⟩
theorem c__law_drawn (G : Glb w K mg) : Cal P w K mg base (xr K) "_law_drawn" 1 3 f__law_drawn := by
  obtain ⟨fd, F⟩ := G.D__law_drawn
  exact cal_of F G.a__law_drawn s__law_drawn (fun _ _ _ _ _ _ us hl => match us, hl with | [_, _, _], _ => rfl) rfl rfl (b__law_drawn G)
def N__law_circuit : List Str := ["_law_script", "_law_most", "_law_head", "_law_cells", "_law_latches", "_law_total", "_law_net", "_law_outputs", "_law_parts_here", "_law_kind_here", "_law_k"]
theorem s__law_circuit : FnScope N__law_circuit ["_law_script", "_law_most"] (defScope (T 31)) := ⟨rfl, rfl, rfl, by decide +kernel, rfl, by decide +kernel, by decide +kernel⟩
set_option maxHeartbeats 0 in
theorem b__law_circuit (G : Glb w K mg) : Body P w K mg base (xr K) 1 N__law_circuit "_law_circuit" (defScope (T 31)) (defBody (T 31)) m__law_circuit := by
  intro f cd A outer s H E W X tk F hr
  have nd : X.N.Nodup := s__law_circuit.nd
  exact ⟨_, (ss_cons (ss_set 2 (se_call (c__law_parts G) hr F.le (sa_cons (se_call (c__law_cell G) hr F.le (sa_cons (se_var 0) (sa_cons se_int sa_nil))) (sa_cons (se_lst (sa_cons se_int (sa_cons se_int (sa_cons se_int (sa_cons se_int sa_nil))))) sa_nil))))
    (ss_cons (ss_own 3 (sf_lst sa_nil))
    (ss_cons (ss_set 4 se_int)
    (ss_cons (ss_set 5 (se_add (se_ix F (se_var 2) se_int) (se_min F G.u_min (sa_cons (se_var 1) (sa_cons (se_max F G.u_max (sa_cons se_int (sa_cons (se_sub (se_len G.u_len (sa_cons (se_var 0) sa_nil)) se_int) sa_nil))) sa_nil)))))
    (ss_cons (ss_for F (si_rng2 G.u_range (se_ix F (se_var 2) se_int) (se_var 5)) (sg_name 6) (ss_cons (ss_set 8 (se_call (c__law_parts G) hr F.le (sa_cons (se_call (c__law_cell G) hr F.le (sa_cons (se_var 0) (sa_cons (se_sub (se_add se_int (se_var 6)) (se_ix F (se_var 2) se_int)) sa_nil))) (sa_cons (se_lst (sa_cons se_int (sa_cons se_int (sa_cons se_int (sa_cons se_int sa_nil))))) sa_nil))))
    (ss_cons (ss_set 9 (se_call (c__law_kind G) hr F.le (sa_cons (se_var 8) (sa_cons (se_var 6) (sa_cons (se_var 4) sa_nil)))))
    (ss_one (ss_if (sb_cmp (c_eq F) (se_var 9) se_str) (ss_cons (ss_set 4 (se_add (se_var 4) se_int))
    (ss_one (ss_app 3 (se_tup (sa_cons (se_var 9) (sa_cons (se_call (c__law_drawn G) hr F.le (sa_cons (se_var 8) (sa_cons se_int (sa_cons (se_var 5) sa_nil)))) (sa_cons (se_var 6) sa_nil))))))) (ss_one (ss_if (sb_cmp (c_in F) (se_var 9) (se_lst (sa_cons se_str (sa_cons se_str sa_nil)))) (ss_one (ss_app 3 (se_tup (sa_cons (se_var 9) (sa_cons (se_tup sa_nil) (sa_cons (se_var 6) sa_nil)))))) (ss_one (ss_if (sb_cmp (c_eq F) (se_var 9) se_str) (ss_one (ss_app 3 (se_tup (sa_cons (se_var 9) (sa_cons (se_call (c__law_drawn G) hr F.le (sa_cons (se_var 8) (sa_cons se_int (sa_cons (se_var 6) sa_nil)))) (sa_cons (se_var 6) sa_nil)))))) (ss_one (ss_app 3 (se_tup (sa_cons (se_var 9) (sa_cons (se_call (c__law_drawn G) hr F.le (sa_cons (se_var 8) (sa_cons (se_intOf G.u_int (sa_cons (se_ix F (se_var 9) (se_neg se_int)) sa_nil)) (sa_cons (se_var 6) sa_nil)))) (sa_cons (se_var 6) sa_nil)))))))))))))))
    (ss_freeze 3 (ss_cons (ss_set 7 (se_tupOf G.u_tuple (sa_cons (SF.comp (sf_comp (own := [("_law_k", 10)]) (te := (tOp rModV (tCB rIntC (tCons (tOp (rAddV K) (tOp (rIxV K) (tVar 2) (tC (.int 2))) (tOp rMulV (tVar 10) (tOp (rIxV K) (tVar 2) (tC (.int 3))))) tNil)) (tVar 5))) (tt := tYes) (g := (gName 10)) F (si_rng1 G.u_range (se_add se_int (se_ix F (se_var 2) se_int))) (fun s H Cc cl fp => (sg_name 10)) (fun s H Cc cl fp => st_nil) (fun s H Cc cl fp => (se_mod (se_intOf G.u_int (sa_cons (se_add (se_ix (F.blk _ _ _ _ _) (se_var 2) se_int) (se_mul (se_var 10) (se_ix (F.blk _ _ _ _ _) (se_var 2) se_int))) sa_nil)) (se_var 5))))) sa_nil)))
    (ss_one (ss_ret (se_tup (sa_cons (se_ix F (se_var 2) se_int) (sa_cons (se_tupOf G.u_tuple (sa_cons (se_var 3) sa_nil)) (sa_cons (se_var 7) (sa_cons (se_tupOf G.u_tuple (sa_cons (SF.comp (sf_comp (own := [("_law_k", 10)]) (te := (tOp rModV (tCB rIntC (tCons (tOp (rAddV K) (tOp (rIxV K) (tVar 2) (tC (.int 2))) (tVar 10)) tNil)) (tC (.int 4)))) (tt := tYes) (g := (gName 10)) F (si_rng1 G.u_range (se_var 4)) (fun s H Cc cl fp => (sg_name 10)) (fun s H Cc cl fp => st_nil) (fun s H Cc cl fp => (se_mod (se_intOf G.u_int (sa_cons (se_add (se_ix (F.blk _ _ _ _ _) (se_var 2) se_int) (se_var 10)) sa_nil)) se_int)))) sa_nil)) sa_nil))))))))))))))⟩
theorem c__law_circuit (G : Glb w K mg) : Cal P w K mg base (xr K) "_law_circuit" 2 2 f__law_circuit := by
  obtain ⟨fd, F⟩ := G.D__law_circuit
  exact cal_of F G.a__law_circuit s__law_circuit (fun _ _ _ _ _ _ us hl => match us, hl with | [_, _], _ => rfl) rfl rfl (b__law_circuit G)
def N__law_is_integer : List Str := ["_law_actual"]
theorem s__law_is_integer : FnScope N__law_is_integer ["_law_actual"] (defScope (T 28)) := ⟨rfl, rfl, rfl, by decide +kernel, rfl, by decide +kernel, by decide +kernel⟩
set_option maxHeartbeats 0 in
theorem b__law_is_integer (G : Glb w K mg) : Body P w K mg base (xr K) 0 N__law_is_integer "_law_is_integer" (defScope (T 28)) (defBody (T 28)) m__law_is_integer := by
  intro f cd A outer s H E W X tk F hr
  have nd : X.N.Nodup := s__law_is_integer.nd
  exact ⟨_, (ss_one (ss_ret (se_and (se_isi (u := .int) G.u_isinstance G.u_int bi_int (se_var 0)) (se_one (se_not (se_isi (u := .bool) G.u_isinstance G.u_bool bi_bool (se_var 0)))))))⟩
theorem c__law_is_integer (G : Glb w K mg) : Cal P w K mg base (xr K) "_law_is_integer" 1 1 f__law_is_integer := by
  obtain ⟨fd, F⟩ := G.D__law_is_integer
  exact cal_of F G.a__law_is_integer s__law_is_integer (fun _ _ _ _ _ _ us hl => match us, hl with | [_], _ => rfl) rfl rfl (b__law_is_integer G)
def N_law : List Str := ["_law_script", "_law_parts_here", "_law_circuit_here", "_law_actual", "_law_shown_here", "_law_test", "_law_cells", "_law_kind_here", "_law_rows", "_law_most", "_law_seen", "_law_k", "_law_row", "_law_flaw"]
theorem s_law : FnScope N_law ["_law_script"] (defScope (T 38)) := ⟨rfl, rfl, rfl, by decide +kernel, rfl, by decide +kernel, by decide +kernel⟩
set_option maxHeartbeats 0 in
theorem b_law (G : Glb w K mg) : Body P w K mg base (xr K) 9 N_law "law" (defScope (T 38)) (defBody (T 38)) m_law := by
  intro f cd A outer s H E W X tk F hr
  have nd : X.N.Nodup := s_law.nd
  exact ⟨_, (ss_cons (ss_set 1 (se_call (c__law_parts G) (hr.mono (by decide)) F.le (sa_cons (se_call (c__law_cell G) (hr.mono (by decide)) F.le (sa_cons (se_var 0) (sa_cons se_int sa_nil))) (sa_cons (se_lst (sa_cons se_int (sa_cons se_int (sa_cons se_int (sa_cons se_int sa_nil))))) sa_nil))))
    (ss_cons (ss_if (sb_cmp (c_eq F) (se_ix F (se_var 1) se_int) se_int) (ss_cons (ss_setLc 6 (sfc_comp (own := [("_law_k", 11)]) (te := (tTup (tCons (tC (.str "latch")) (tCons (tTup (tCons (tVar 11) tNil)) (tCons (tOp (rAddV K) (tC (.int 6)) (tVar 11)) tNil))))) (tt := tYes) (g := (gName 11)) F (si_rng1 G.u_range (se_add se_int (se_ix F (se_var 1) se_int))) (fun s H Cc cl fp => (sg_name 11)) (fun s H Cc cl fp => st_nil) (fun s H Cc cl fp => (se_tup (sa_cons se_str (sa_cons (se_tup (sa_cons (se_var 11) sa_nil)) (sa_cons (se_add se_int (se_var 11)) sa_nil)))))))
    (ss_one (ss_ret (se_call (c__law_refuses G) hr F.le (sa_cons (se_tup (sa_cons se_int (sa_cons (se_tupOf G.u_tuple (sa_cons (se_var 6) sa_nil)) (sa_cons (se_tup (sa_cons se_int (sa_cons se_int sa_nil))) (sa_cons (se_tupRg1 F G.u_tuple G.u_range (se_add se_int (se_ix F (se_var 1) se_int))) sa_nil))))) sa_nil))))) ss_nil)
    (ss_cons (ss_set 2 (se_call (c__law_bare G) (hr.mono (by decide)) F.le (sa_cons (se_var 0) (sa_cons (se_call (c__law_circuit G) (hr.mono (by decide)) F.le (sa_cons (se_var 0) (sa_cons se_int sa_nil))) sa_nil))))
    (ss_cons (ss_if (sb_cmp (c_eq F) (se_ix F (se_var 1) se_int) se_int) (ss_cons (ss_set 7 (se_ix F (se_lst (sa_cons se_str (sa_cons se_str (sa_cons se_str (sa_cons se_str sa_nil))))) (se_ix F (se_var 1) se_int)))
    (ss_one (ss_set 2 (se_tup (sa_cons se_int (sa_cons (se_tup (sa_cons (se_tup (sa_cons (se_var 7) (sa_cons (se_tup (sa_cons (se_ix F (se_var 1) se_int) (sa_cons (se_sub se_int (se_ix F (se_var 1) se_int)) sa_nil))) (sa_cons se_int sa_nil)))) sa_nil)) (sa_cons (se_tup (sa_cons se_int (sa_cons (se_ix F (se_var 1) se_int) sa_nil))) (sa_cons (se_tup sa_nil) sa_nil)))))))) ss_nil)
    (ss_cons (ss_if (sb_cmp (c_eq F) (se_ix F (se_var 1) se_int) se_int) (ss_cons (ss_set 7 (se_ix F (se_lst (sa_cons se_str (sa_cons se_str (sa_cons se_str (sa_cons se_str sa_nil))))) (se_ix F (se_var 1) se_int)))
    (ss_cons (ss_set 8 (se_lst (sa_cons (se_tup (sa_cons se_str (sa_cons (se_tup (sa_cons (se_ix F (se_var 1) se_int) sa_nil)) (sa_cons se_int sa_nil)))) (sa_cons (se_tup (sa_cons se_str (sa_cons (se_tup (sa_cons (se_sub se_int (se_ix F (se_var 1) se_int)) sa_nil)) (sa_cons se_int sa_nil)))) (sa_cons (se_tup (sa_cons (se_var 7) (sa_cons (se_tup (sa_cons (se_ix F (se_var 1) se_int) (sa_cons se_int sa_nil))) (sa_cons se_int sa_nil)))) sa_nil)))))
    (ss_cons (ss_if (sb_cmp c_gt (se_ix F (se_var 1) se_int) se_int) (ss_one (ss_set 8 (se_lst (sa_cons (se_tup (sa_cons se_str (sa_cons (se_tup (sa_cons (se_ix F (se_var 1) se_int) sa_nil)) (sa_cons se_int sa_nil)))) (sa_cons (se_tup (sa_cons (se_var 7) (sa_cons (se_tup (sa_cons (se_ix F (se_var 1) se_int) (sa_cons se_int sa_nil))) (sa_cons se_int sa_nil)))) (sa_cons (se_tup (sa_cons se_str (sa_cons (se_tup (sa_cons (se_sub se_int (se_ix F (se_var 1) se_int)) sa_nil)) (sa_cons se_int sa_nil)))) sa_nil)))))) ss_nil)
    (ss_one (ss_set 2 (se_tup (sa_cons se_int (sa_cons (se_tupOf G.u_tuple (sa_cons (se_var 8) sa_nil)) (sa_cons (se_tup (sa_cons se_int (sa_cons (se_ix F (se_var 1) se_int) sa_nil))) (sa_cons (se_tup (sa_cons se_int (sa_cons se_int sa_nil))) sa_nil)))))))))) ss_nil)
    (ss_cons (ss_set 3 (se_call (c_make_tests G) (hr.mono (by decide)) F.le (sa_cons (se_var 2) sa_nil)))
    (ss_cons (ss_if (sb_not (sb_tru (se_isi (u := .list) G.u_isinstance G.u_list bi_list (se_var 3)))) (ss_one (ss_ret se_bl)) ss_nil)
    (ss_cons (ss_set 4 (se_call (c__law_shown G) (hr.mono (by decide)) F.le (sa_cons (se_var 2) sa_nil)))
    (ss_cons (ss_for F (si_seq (se_var 3)) (sg_name 5) (ss_cons (ss_set 9 (se_max F G.u_max (sa_cons (SF.comp (sf_comp (own := [("_law_row", 12)]) (te := (tCB (rLenC K) (tCons (tVar 12) tNil))) (tt := tYes) (g := (gName 12)) F (si_seq (se_var 4)) (fun s H Cc cl fp => (sg_name 12)) (fun s H Cc cl fp => st_nil) (fun s H Cc cl fp => (se_len G.u_len (sa_cons (se_var 12) sa_nil))))) sa_nil)))
    (ss_cons (ss_if (sb_w (sw_or (sb_not (sb_tru (se_call (c__law_is_integer G) (hr.mono (by decide)) F.le (sa_cons (se_var 5) sa_nil)))) (sw_or (sb_cmp (c_eq F) (se_var 9) se_int) (sw_or (sb_cmp c_lt (se_var 5) se_int) (sw_or1 (sb_cmp c_ge (se_var 5) (se_len G.u_len (sa_cons (se_var 4) sa_nil)))))))) (ss_one (ss_ret se_bl)) ss_nil)
    (ss_cons (ss_if (sb_cmp (c_ne F) (se_var 5) (se_index (SF.comp (sf_comp (own := [("_law_row", 12)]) (te := (tCB (rLenC K) (tCons (tVar 12) tNil))) (tt := tYes) (g := (gName 12)) F (si_seq (se_var 4)) (fun s H Cc cl fp => (sg_name 12)) (fun s H Cc cl fp => st_nil) (fun s H Cc cl fp => (se_len G.u_len (sa_cons (se_var 12) sa_nil))))) (se_var 9))) (ss_one (ss_ret se_bl)) ss_nil)
    (ss_cons (ss_set 10 (se_ix F (se_var 4) (se_var 5)))
    (ss_one (ss_setLc 4 (sfc_comp (own := [("_law_row", 12)]) (te := (tLc (iSeqT K (tVar 12)) (gName 13) (tTest (tOp (rNotInD K) (tVar 13) (tVar 10))) (tVar 13) [13])) (tt := tYes) (g := (gName 12)) F (si_seq (se_var 4)) (fun s H Cc cl fp => (sg_name 12)) (fun s H Cc cl fp => st_nil) (fun s H Cc cl fp => (SF.comp (sf_comp (own := [("_law_flaw", 13)]) (te := (tVar 13)) (tt := (tTest (tOp (rNotInD K) (tVar 13) (tVar 10)))) (g := (gName 13)) (F.blk _ _ _ _ _) (si_seq (se_var 12)) (fun s H Cc cl fp => (sg_name 13)) (fun s H Cc cl fp => (st_one (sb_cmp (c_niDt ((F.blk _ _ _ _ _).blk _ _ _ _ _)) (se_var 13) (se_var 10)))) (fun s H Cc cl fp => (se_var 13)))))))))))))
    (ss_one (ss_ret (se_cmp (c_eq F) (se_max F G.u_max (sa_cons (SF.comp (sf_comp (own := [("_law_row", 12)]) (te := (tCB (rLenC K) (tCons (tVar 12) tNil))) (tt := tYes) (g := (gName 12)) F (si_seq (se_var 4)) (fun s H Cc cl fp => (sg_name 12)) (fun s H Cc cl fp => st_nil) (fun s H Cc cl fp => (se_len G.u_len (sa_cons (se_var 12) sa_nil))))) sa_nil)) se_int))))))))))))⟩
end
end K20
end Vm
namespace Vm
namespace K20
open PySem L2 PyProof.Rows
theorem ex_ok {K : PySem.W.Frag} (c : hEx K = true) (i : Nat) {f : PySem.W.Frag → Bool} (e : hEs[i]? = some f) : f K = true := List.all_eq_true.mp c f (List.mem_of_getElem? e)
theorem glb {w : World} {K : PySem.W.Frag} {h h' : Heap} {mg : Str → Option Value} (X : K.In h) (G0 : h.Ns mainGlobals mg) (c : He.SaysX hFa hFn hTs [] hEx w h' K) : Glb w K mg :=
  ⟨He.free_ok X G0 (c.t.d.fact 0 (f := .free "range") rfl),
   He.free_ok X G0 (c.t.d.fact 1 (f := .free "len") rfl),
   He.free_ok X G0 (c.t.d.fact 2 (f := .free "int") rfl),
   He.free_ok X G0 (c.t.d.fact 3 (f := .free "tuple") rfl),
   He.free_ok X G0 (c.t.d.fact 4 (f := .free "all") rfl),
   He.free_ok X G0 (c.t.d.fact 5 (f := .free "any") rfl),
   He.free_ok X G0 (c.t.d.fact 6 (f := .free "enumerate") rfl),
   He.free_ok X G0 (c.t.d.fact 7 (f := .free "list") rfl),
   He.free_ok X G0 (c.t.d.fact 8 (f := .free "max") rfl),
   He.free_ok X G0 (c.t.d.fact 9 (f := .free "sum") rfl),
   He.free_ok X G0 (c.t.d.fact 10 (f := .free "isinstance") rfl),
   He.free_ok X G0 (c.t.d.fact 11 (f := .free "min") rfl),
   He.free_ok X G0 (c.t.d.fact 12 (f := .free "bool") rfl),
   He.int_ok X G0 (c.t.d.fact 13 (f := .int "MOST_CASES" 64) rfl),
   He.glo_ok X G0 (c.t.d.fact 14 (f := .glo "CONSTANTS") rfl),
   kd_of (c.t.tab 0 (t := (fun K => He.ga K "CONSTANTS", ["tie0", "tie1"])) rfl) (ex_ok c.more 0 (f := fun K => dicB K (He.ga K "CONSTANTS") v_CONSTANTS) rfl),
   kdk_of (c.t.tab 0 (t := (fun K => He.ga K "CONSTANTS", ["tie0", "tie1"])) rfl) (ex_ok c.more 0 (f := fun K => dicB K (He.ga K "CONSTANTS") v_CONSTANTS) rfl),
   gB_ok X G0 (ex_ok c.more 1 (f := fun K => gB K "NANDS" v_NANDS) rfl),
   ⟨He.glo_ok X G0 (c.t.d.fact 15 (f := .glo "TooLarge") rfl), He.exc_ok (c.t.d.fact 16 (f := .exc "TooLarge") rfl)⟩,
   ⟨He.glo_ok X G0 (c.t.d.fact 17 (f := .glo "NoSuchThing") rfl), He.exc_ok (c.t.d.fact 18 (f := .exc "NoSuchThing") rfl)⟩,
   ⟨He.glo_ok X G0 (c.t.d.fact 19 (f := .glo "GatesError") rfl), He.exc_ok (c.t.d.fact 20 (f := .exc "GatesError") rfl)⟩,
   fun p hp => of_decide_eq_true (List.all_eq_true.mp (ex_ok c.more 2 (f := fun K => tb_GatesError.all fun p => decide (PySem.W.exmOne K (.ref (He.ga K p.1)) (.ref (He.ga K "GatesError")) = some p.2)) rfl) p hp),
   ⟨.inr ⟨by decide, He.glo_ok X G0 (c.t.d.fact 21 (f := .glo "TooLarge") rfl)⟩, fun p hp => is_ok (List.all_eq_true.mp (ex_ok c.more 3 (f := fun K => ti_TooLarge.all fun p => excCB K p.1 && decide (PySem.W.kitOne K (.ref (He.ga K p.1)) (clsV K "TooLarge") = some p.2)) rfl) p hp)⟩,
   He.glo_ok X G0 (c.t.d.fact 22 (f := .glo "_law_parts") rfl),
   c.t.d.def_ 0 (d := d__law_parts) rfl,
   He.glo_ok X G0 (c.t.d.fact 23 (f := .glo "_law_cell") rfl),
   c.t.d.def_ 1 (d := d__law_cell) rfl,
   He.glo_ok X G0 (c.t.d.fact 24 (f := .glo "_law_bare") rfl),
   c.t.d.def_ 2 (d := d__law_bare) rfl,
   He.glo_ok X G0 (c.t.d.fact 25 (f := .glo "latch_cells") rfl),
   c.t.d.def_ 3 (d := d_latch_cells) rfl,
   He.glo_ok X G0 (c.t.d.fact 26 (f := .glo "bit_count") rfl),
   c.t.d.def_ 4 (d := d_bit_count) rfl,
   He.glo_ok X G0 (c.t.d.fact 27 (f := .glo "case_count") rfl),
   c.t.d.def_ 5 (d := d_case_count) rfl,
   He.glo_ok X G0 (c.t.d.fact 28 (f := .glo "check_size") rfl),
   c.t.d.def_ 6 (d := d_check_size) rfl,
   He.glo_ok X G0 (c.t.d.fact 29 (f := .glo "all_flaws") rfl),
   c.t.d.def_ 7 (d := d_all_flaws) rfl,
   He.glo_ok X G0 (c.t.d.fact 30 (f := .glo "check_flaw") rfl),
   c.t.d.def_ 8 (d := d_check_flaw) rfl,
   He.glo_ok X G0 (c.t.d.fact 31 (f := .glo "case_bits") rfl),
   c.t.d.def_ 9 (d := d_case_bits) rfl,
   He.glo_ok X G0 (c.t.d.fact 32 (f := .glo "cell_value") rfl),
   c.t.d.def_ 10 (d := d_cell_value) rfl,
   He.glo_ok X G0 (c.t.d.fact 33 (f := .glo "settled_values") rfl),
   c.t.d.def_ 11 (d := d_settled_values) rfl,
   He.glo_ok X G0 (c.t.d.fact 34 (f := .glo "answers") rfl),
   c.t.d.def_ 12 (d := d_answers) rfl,
   He.glo_ok X G0 (c.t.d.fact 35 (f := .glo "shows") rfl),
   c.t.d.def_ 13 (d := d_shows) rfl,
   He.glo_ok X G0 (c.t.d.fact 36 (f := .glo "make_tests") rfl),
   c.t.d.def_ 14 (d := d_make_tests) rfl,
   He.glo_ok X G0 (c.t.d.fact 37 (f := .glo "_law_cases") rfl),
   c.t.d.def_ 15 (d := d__law_cases) rfl,
   He.glo_ok X G0 (c.t.d.fact 38 (f := .glo "_law_value") rfl),
   c.t.d.def_ 16 (d := d__law_value) rfl,
   He.glo_ok X G0 (c.t.d.fact 39 (f := .glo "_law_answers") rfl),
   c.t.d.def_ 17 (d := d__law_answers) rfl,
   He.glo_ok X G0 (c.t.d.fact 40 (f := .glo "_law_shown") rfl),
   c.t.d.def_ 18 (d := d__law_shown) rfl,
   He.glo_ok X G0 (c.t.d.fact 41 (f := .glo "first_case") rfl),
   c.t.d.def_ 19 (d := d_first_case) rfl,
   He.glo_ok X G0 (c.t.d.fact 42 (f := .glo "hidden_flaws") rfl),
   c.t.d.def_ 20 (d := d_hidden_flaws) rfl,
   He.glo_ok X G0 (c.t.d.fact 43 (f := .glo "_law_refuses") rfl),
   c.t.d.def_ 21 (d := d__law_refuses) rfl,
   He.glo_ok X G0 (c.t.d.fact 44 (f := .glo "_law_kind") rfl),
   c.t.d.def_ 22 (d := d__law_kind) rfl,
   He.glo_ok X G0 (c.t.d.fact 45 (f := .glo "_law_drawn") rfl),
   c.t.d.def_ 23 (d := d__law_drawn) rfl,
   He.glo_ok X G0 (c.t.d.fact 46 (f := .glo "_law_circuit") rfl),
   c.t.d.def_ 24 (d := d__law_circuit) rfl,
   He.glo_ok X G0 (c.t.d.fact 47 (f := .glo "_law_is_integer") rfl),
   c.t.d.def_ 25 (d := d__law_is_integer) rfl,
   He.glo_ok X G0 (c.t.d.fact 48 (f := .glo "law") rfl),
   c.t.d.def_ 26 (d := d_law) rfl,
   ktB_ok (ex_ok c.more 4 (f := fun K => ktB (some st_Pairs) K) rfl)⟩
theorem law_fn (pure : ∀ ns : List Int, ns.length ≤ 63 → f_law [.lst (ns.map Val.int)] = .ret (.bl true)) {P : Program} {w : World} {K : PySem.W.Frag} {h : Heap} {mg : Str → Option Value} {f : Addr} (X : K.In h) (G0 : h.Ns mainGlobals mg) (hfa : mg ("law" : Str) = some (.ref f)) (c : He.SaysX hFa hFn hTs [] hEx w h K) :
    ∃ (fd : FuncData) (sp : Sp), (∀ (s : Shared) (v : Value), BindsTo s fd ⟨[v], []⟩ [("_law_script", v)]) ∧ (∀ (H : Hp) (a : Addr) (ns : List Int), ns.length ≤ 63 → SqL K H a (ns.map V.int) → sp [.ref a] H (fun v _ => v = .bl true) fun _ _ _ => False) ∧
      ∀ base : Heap, K.In base → base.Ns mainGlobals mg → FnOk P w K mg base CX0 10 f fd ["_law_script"] sp := by
  have G := glb X G0 c
  obtain ⟨fd, F⟩ := G.D_law
  have e := hfa.symm.trans G.a_law
  cases e
  have b := FunD.bindsA (ps := ["_law_script"]) F fun _ _ _ _ _ _ us hl => match us, hl with | [_], _ => rfl
  refine ⟨fd, spLaw (spF K (xr K) 1 f_law), fun s v => b s [v] rfl, fun H a ns hl hS => ?_, fun base _ _ => ?_⟩
  · exact law_sp (pure ns hl) hS
  · exact FnOk.to0 (fn_ok F s_law rfl rfl (b_law G))
open PySem PySem.W PySem.Calls PyProof.Rows
theorem gr_holds (pure : ∀ ns : List Int, ns.length ≤ 63 → f_law [.lst (ns.map Val.int)] = .ret (.bl true)) : PySem.Challenge.rw_gatesread_k20_tests_show_all_flaws.Holds := by
  w_on; o_law
  refine HandSHeadRun.head_any (r := OpenLaw.row PySem.Challenge.rw_gatesread_k20_tests_show_all_flaws) (q := view (OpenLaw.row PySem.Challenge.rw_gatesread_k20_tests_show_all_flaws).prog [38]) (H := hk) (ob := ob) (M := 4000) (loose := loose) (d := HandSHeadRun.topDef (OpenLaw.row PySem.Challenge.rw_gatesread_k20_tests_show_all_flaws).prog 38) (kwd := []) ob_eq
    (by kernel_rfl) (fun s => by kernel_rfl) hrun (by kernel_rfl) (by kernel_rfl) (by kernel_rfl) (by rfl) (by first | assumption | decide +kernel) (by decide +kernel) ⟨rfl, rfl, rfl, rfl, rfl, by decide +kernel⟩ ?hw ?hc
  case hw => w_witness2
  case hc =>
    refine L2.walk_ofE (l := PySem.Challenge.rw_gatesread_k20_tests_show_all_flaws) (n := 63) (k := 10) (x := "_law_script") (CX := L2.CX0) rfl (by decide) (by kernel_rfl) ⟨rfl, by decide, by decide⟩ ?F (fun _ _ _ _ z => z)
    intro w mg fa h Y G hmg0
    obtain ⟨K, KX, c⟩ := Y
    have hmg : mg ("law" : PySem.Str) = some (.ref fa) := by
      have e : (HandSHeadRun.topDef (OpenLaw.row PySem.Challenge.rw_gatesread_k20_tests_show_all_flaws).prog 38).name = ("law" : PySem.Str) := by kernel_rfl
      rw [← e]
      exact hmg0
    obtain ⟨fd, sp, hb, hs, hF⟩ := law_fn pure (P := (PySem.Challenge.rw_gatesread_k20_tests_show_all_flaws).prog) (w := w) KX G hmg c
    exact ⟨K, fd, sp, KX, hb, fun H a ns hl _ hS => hs H a ns hl hS, hF⟩
end K20
end Vm
noncomputable section
namespace Vm
namespace K20
open PySem
open Lib
abbrev Fl := Nat × Bool
abbrev Rows := List (List Fl)
def mxN : List Nat → Nat
  | [] => 0
  | a :: l => l.foldl max a
def mx (R : Rows) : Nat := mxN (R.map (·.length))
def ixN (x : Nat) : List Nat → Nat
  | [] => 0
  | a :: l => if a = x then 0 else ixN x l + 1
def ix (R : Rows) : Nat := ixN (mx R) (R.map (·.length))
def chosen (R : Rows) : List Fl := R.getD (ix R) []
def nxt (R : Rows) : Rows := R.map fun r => r.filter fun f => !decide (f ∈ chosen R)
def tot (R : Rows) : Nat := (R.map (·.length)).sum
inductive Run : Rows → List Nat → Prop
  | nil {R : Rows} : mx R = 0 → Run R []
  | cons {R : Rows} {ts : List Nat} : mx R ≠ 0 → Run (nxt R) ts → Run R (ix R :: ts)
theorem foldl_max_mem : ∀ (l : List Nat) (a : Nat), l.foldl max a ∈ a :: l
  | [], a => by simp
  | x :: l, a => by
    show l.foldl max (max a x) ∈ _
    have := foldl_max_mem l (max a x)
    rcases List.mem_cons.mp this with h | h
    · rw [h]
      rcases Nat.le_total a x with q | q
      · rw [Nat.max_eq_right q]; simp
      · rw [Nat.max_eq_left q]; simp
    · simp [h]
theorem mxN_mem {l : List Nat} (h : l ≠ []) : mxN l ∈ l := by
  cases l with
  | nil => exact absurd rfl h
  | cons a l => exact foldl_max_mem l a
theorem ixN_get {x : Nat} : ∀ {l : List Nat}, x ∈ l → l[ixN x l]? = some x
  | [], h => by cases h
  | a :: l, h => by
    unfold ixN
    by_cases q : a = x
    · rw [if_pos q, q]; rfl
    · rw [if_neg q]
      rcases List.mem_cons.mp h with e | h
      · exact absurd e.symm q
      · rw [List.getElem?_cons_succ]; exact ixN_get h
theorem ix_get {R : Rows} (h : R ≠ []) : ∃ r, R[ix R]? = some r ∧ r.length = mx R ∧ chosen R = r := by
  have h1 := ixN_get (mxN_mem (l := R.map (·.length)) (by simpa using h))
  rw [List.getElem?_map] at h1
  cases hr : R[ixN (mxN (R.map (·.length))) (R.map (·.length))]? with
  | none => rw [hr] at h1; cases h1
  | some r =>
    rw [hr] at h1
    refine ⟨r, hr, Option.some.inj h1, ?_⟩
    unfold chosen
    rw [List.getD_eq_getElem?_getD]
    show (R[ixN (mxN (R.map (·.length))) (R.map (·.length))]?).getD [] = r
    rw [hr]; rfl
theorem sum_le_map {α : Type} (f g : α → Nat) : ∀ (l : List α), (∀ x ∈ l, f x ≤ g x) → (l.map f).sum ≤ (l.map g).sum
  | [], _ => Nat.le_refl _
  | a :: l, h => by
    rw [List.map_cons, List.map_cons, List.sum_cons, List.sum_cons]
    have := sum_le_map f g l fun x hx => h x (List.mem_cons_of_mem _ hx)
    have := h a List.mem_cons_self
    omega
theorem sum_lt_map {α : Type} (f g : α → Nat) : ∀ (l : List α), (∀ x ∈ l, f x ≤ g x) → (∃ x ∈ l, f x < g x) → (l.map f).sum < (l.map g).sum
  | [], _, h => by obtain ⟨x, hx, _⟩ := h; cases hx
  | a :: l, h, h2 => by
    rw [List.map_cons, List.map_cons, List.sum_cons, List.sum_cons]
    have h3 := sum_le_map f g l fun x hx => h x (List.mem_cons_of_mem _ hx)
    have h4 := h a List.mem_cons_self
    obtain ⟨x, hx, hlt⟩ := h2
    rcases List.mem_cons.mp hx with rfl | hx
    · omega
    · have := sum_lt_map f g l (fun x hx => h x (List.mem_cons_of_mem _ hx)) ⟨x, hx, hlt⟩
      omega
theorem tot_lt {R : Rows} (h0 : R ≠ []) (h : mx R ≠ 0) : tot (nxt R) < tot R := by
  obtain ⟨r, h1, h2, h3⟩ := ix_get h0
  unfold tot nxt
  rw [List.map_map]
  refine sum_lt_map _ _ R (fun x _ => List.length_filter_le _ _) ⟨r, List.mem_of_getElem? h1, ?_⟩
  show (r.filter fun f => !decide (f ∈ chosen R)).length < r.length
  have : (r.filter fun f => !decide (f ∈ chosen R)) = [] := by
    rw [List.filter_eq_nil_iff]
    intro f hf
    rw [h3, decide_eq_true hf]
    exact Bool.false_ne_true
  rw [this, h2]
  show 0 < mx R
  omega
theorem nxt_len (R : Rows) : (nxt R).length = R.length := by unfold nxt; rw [List.length_map]
theorem nxt_rows {R : Rows} {n : Nat} (h : ∀ r ∈ R, r.length ≤ n) : ∀ r ∈ nxt R, r.length ≤ n := by
  intro r hr
  obtain ⟨x, hx, rfl⟩ := List.mem_map.mp hr
  exact Nat.le_trans (List.length_filter_le _ _) (h x hx)
def rowV (r : List Fl) : Val := .lst (r.map flawV)
def rowsV (R : Rows) : Val := .lst (R.map rowV)
def cntV (R : Rows) : Val := .lst ((R.map (·.length)).map fun n : Nat => Val.int (n : Int))
theorem maxL_nat : ∀ (l : List Nat) (a : Nat), maxL (a : Int) (l.map fun n : Nat => (n : Int)) = ((l.foldl max a : Nat) : Int)
  | [], a => rfl
  | x :: l, a => by
    show maxL (if (x : Int) > (a : Int) then (x : Int) else (a : Int)) _ = ((l.foldl max (max a x) : Nat) : Int)
    rw [← maxL_nat l (max a x)]
    congr 1
    split <;> omega
theorem ivs_ints (l : List Nat) : (l.map fun n : Nat => Val.int (n : Int)) = (l.map fun n : Nat => (n : Int)).map Val.int := by rw [List.map_map]; rfl
theorem max_cnt {R : Rows} (h : R ≠ []) : vMax [cntV R] = .ok (.int (mx R : Nat)) := by
  obtain ⟨a, l, rfl⟩ := List.exists_cons_of_ne_nil h
  show ((Res.ofOpt (intsOf (((a :: l).map (·.length)).map fun n : Nat => Val.int (n : Int)))).bind _) = _
  rw [ivs_ints, intsOf_map]
  show Res.ok (Val.int (maxL (a.length : Int) ((l.map (·.length)).map fun n : Nat => (n : Int)))) = _
  rw [maxL_nat]
  rfl
theorem indexOf_nat (x : Nat) : ∀ (l : List Nat), x ∈ l → indexOf (.int x) (l.map fun n : Nat => Val.int (n : Int)) = some (ixN x l)
  | [], h => by cases h
  | a :: l, h => by
    rw [List.map_cons]
    have e : eqv (Val.int a) (Val.int x) = decide (a = x) := by
      show ((a : Int) == (x : Int)) = decide (a = x)
      rw [Bool.eq_iff_iff, beq_iff_eq, decide_eq_true_eq]
      omega
    unfold indexOf ixN
    rw [e]
    by_cases q : a = x
    · rw [decide_eq_true q, if_pos q]; rfl
    · rw [decide_eq_false q, if_neg q]
      rcases List.mem_cons.mp h with e | h
      · exact absurd e.symm q
      · show (indexOf _ _).map (· + 1) = _
        rw [indexOf_nat x l h]; rfl
theorem index_cnt {R : Rows} (h : R ≠ []) {a b : EX} {env : Env} (ha : a env = .ok (cntV R)) (hb : b env = .ok (.int (mx R : Nat))) : eIndex a b env = .ok (.int (ix R : Nat)) := by
  unfold eIndex
  rw [ha]
  show (b env).bind _ = _
  rw [hb]
  show vIndex _ _ = _
  unfold vIndex
  rw [if_pos, indexOf_nat (mx R) _ (mxN_mem (by simpa using h))]
  · rfl
  · show (true && _) = true
    rw [Bool.true_and, List.all_eq_true]
    intro v hv
    obtain ⟨n, _, rfl⟩ := List.mem_map.mp hv
    rfl
def keyF (f : Fl) : List Key := [.inl (f.1 : Int), .inl (b2i f.2)]
theorem keyF_inj {f g : Fl} (h : keyF f = keyF g) : f = g := by
  obtain ⟨a, b⟩ := f
  obtain ⟨c, d⟩ := g
  unfold keyF at h
  injection h with h1 h
  injection h with h2 _
  injection h1 with h1
  injection h2 with h2
  have e1 : a = c := by
    have h1 : (a : Int) = (c : Int) := h1
    omega
  subst e1
  have h2 : b2i b = b2i d := h2
  cases b <;> cases d <;> first | rfl | exact absurd h2 (by decide)
abbrev SP : SK := some st_Pairs
theorem key_of (f : Fl) : keysOf (flawV f) = some (keyF f) := rfl
theorem key_st (f : Fl) : hasK SP (keyF f) = false := rfl
theorem getK_nil (k : List Key) : getK [] k = none := rfl
theorem getK_any (j : List Key) : ∀ l : List (List Key × Val), (getK l j).isSome = l.any fun kv => decide (kv.1 = j)
  | [] => rfl
  | x :: l => by
    unfold getK
    rw [List.find?_cons, List.any_cons]
    cases h : decide (x.1 = j) with
    | true => rfl
    | false => rw [Bool.false_or]; exact getK_any j l
theorem getK_put (kvs : List (List Key × Val)) (k j : List Key) (v : Val) : (getK (putT kvs k v) j).isSome = ((getK kvs j).isSome || decide (k = j)) := by
  rw [getK_any, getK_any]
  unfold putT
  split
  · rename_i h
    rw [List.any_map]
    have e : (kvs.any ((fun kv => decide (kv.1 = j)) ∘ fun kv => if kv.1 = k then (kv.1, v) else kv)) = kvs.any fun kv => decide (kv.1 = j) := by
      congr 1
      funext kv
      show decide ((if kv.1 = k then (kv.1, v) else kv).1 = j) = _
      split <;> rfl
    rw [e]
    by_cases q : k = j
    · subst q
      rw [h]; rfl
    · rw [decide_eq_false q, Bool.or_false]
  · rw [List.any_append]
    simp
def keysM : List Fl → List (List Key × Val) := fun r => r.map fun f => (keyF f, .bl true)
theorem getK_merge (j : List Key) : ∀ (ps kvs : List (List Key × Val)), (getK (mergeT kvs ps) j).isSome = ((getK kvs j).isSome || ps.any fun kv => decide (kv.1 = j))
  | [], kvs => by show (getK kvs j).isSome = _; simp
  | p :: ps, kvs => by
    show (getK (mergeT (putT kvs p.1 p.2) ps) j).isSome = _
    rw [getK_merge j ps, getK_put, List.any_cons, Bool.or_assoc]
def seenV (r : List Fl) : Val := .dcT (mergeT [] (keysM r))
theorem notInT_ok (f : Fl) (r : List Fl) : vNotInT SP (flawV f) (seenV r) = .ok (.bl (!decide (f ∈ r))) := by
  have e : vInT SP (flawV f) (seenV r) = .ok (.bl (decide (f ∈ r))) := by
    show (if hasK SP (keyF f) = true then Res.bad else Res.ok (Val.bl (getK (mergeT [] (keysM r)) (keyF f)).isSome)) = _
    rw [key_st, if_neg Bool.false_ne_true, getK_merge]
    congr 2
    rw [getK_nil]
    show (false || _) = _
    rw [Bool.false_or, Bool.eq_iff_iff, List.any_eq_true, decide_eq_true_eq]
    constructor
    · rintro ⟨x, hx, h⟩
      obtain ⟨g, hg, rfl⟩ := List.mem_map.mp hx
      exact keyF_inj (of_decide_eq_true h) ▸ hg
    · intro h
      exact ⟨_, List.mem_map.mpr ⟨f, h, rfl⟩, decide_eq_true rfl⟩
  unfold vNotInT
  rw [e]
  rfl
theorem pairs_ok : ∀ r : List Fl, pairsOfT SP (r.map fun f => Val.tup [flawV f, .bl true]) = .ok (keysM r)
  | [] => rfl
  | f :: r => by
    rw [List.map_cons]
    unfold pairsOfT
    rw [pairs_ok r]
    rfl
theorem eqv_flaw (f g : Fl) : eqv (flawV f) (flawV g) = decide (f = g) := by
  obtain ⟨a, b⟩ := f
  obtain ⟨c, d⟩ := g
  show (((a : Int) == (c : Int)) && ((b2i b == b2i d) && true)) = _
  rw [Bool.eq_iff_iff, Bool.and_eq_true, Bool.and_true, beq_iff_eq, beq_iff_eq, decide_eq_true_eq]
  constructor
  · rintro ⟨h1, h2⟩
    have e1 : a = c := by omega
    subst e1
    cases b <;> cases d <;> first | rfl | exact absurd h2 (by decide)
  · intro h
    injection h with h1 h2
    subst h1 h2
    exact ⟨rfl, rfl⟩
theorem notInL_ok (f : Fl) (r : List Fl) : vNotInDt (flawV f) (rowV r) = .ok (.bl (!decide (f ∈ r))) := by
  unfold vNotInDt vInDt rowV
  have h2 : ∀ t : Fl, (flawV t).depth ≤ 1 := fun t => Nat.le_refl _
  have h3 : Val.isDatas (r.map flawV) = true := datas_map r fun t _ => rfl
  have h4 : Val.depths (r.map flawV) ≤ 1 := depths_map (f := flawV) (n := 1) r fun t _ => h2 t
  have h5 := h2 f
  have hd : dataOk (flawV f) (r.map flawV) = true := by
    unfold dataOk
    simp only [Bool.and_eq_true, decide_eq_true_eq, h3, show (flawV f).isData = true from rfl, true_and, and_true]
    omega
  show rNot (if dataOk (flawV f) (r.map flawV) = true then Res.ok (Val.bl (inFlat (flawV f) (r.map flawV))) else .bad) = _
  rw [if_pos hd]
  have e : inFlat (flawV f) (r.map flawV) = decide (f ∈ r) := by
    unfold inFlat
    rw [List.any_map, Bool.eq_iff_iff, List.any_eq_true, decide_eq_true_eq]
    constructor
    · rintro ⟨x, hx, h⟩
      have h : eqv (flawV x) (flawV f) = true := h
      rw [eqv_flaw, decide_eq_true_eq] at h
      exact h ▸ hx
    · intro h
      exact ⟨f, h, by show eqv (flawV f) (flawV f) = true; rw [eqv_flaw]; exact decide_eq_true rfl⟩
  rw [e]
  rfl
end K20
end Vm
end
noncomputable section
namespace Vm
namespace K20
open PySem
local macro_rules | `(tactic| dsimp! [$ts,*]) => `(tactic| repeat' first $[| exact $(ts.getElems.map (fun (x : Lean.TSyntax _) => (⟨x.raw[2]⟩ : Lean.TSyntax `term)))]* | (first | with_reducible apply e2_ok | with_reducible apply aCons_ok | with_reducible apply eArgs_go | with_reducible apply eCall_ok | with_reducible apply bVal_ok | with_reducible apply bTruth_ok | with_reducible apply bNot_ok | with_reducible apply bAnd_ok | with_reducible apply bOr_ok | with_reducible apply e1_ok | with_reducible apply eAnd_ok | with_reducible apply eOr_ok | with_reducible apply eNot_ok | exact vEq_i _ _ | exact vNe_i _ _ | exact vEq_s _ _ | exact vNe_s _ _ | exact vIn_2 _ _ _ | exact vIn_3 _ _ _ _ | exact vIn_5 _ _ _ _ _ _ | exact vMax2 _ _ | exact vMin2 _ _ | exact vMax3 _ _ _ | rfl))
local macro_rules | `(tactic| simp! [$ts,*]) => `(tactic| simp only [Ok_seq, OkM_seq, OkM_next, OkM_ret, OkM_exc, OkM_brk, OkM_cont, OkM_bind, OkM_cond, OkM_ite, RS.bind_ok, RS.bind_exc, RS.bind_bad, Res.flow_exc, Flow.bind_exc, RS.flow_ok, RS.flow_exc, RS.flow_bad, Res.rs_ok, Res.rs_exc, Res.rs_bad, RSflow_ite, RSbind_ite, RSflow_cond, RSbind_cond, rs_ite, rs_cond, mH, mN, mNil, mCons, mLst, mTup, m1, m2, mIf, mAnd, mOr, mNot, mFn, mArgs, bmP, bmV, bmT, bmAnd, bmOr, bmNot, sSetM, sDropM, sRetM, sIfM, sRaise, sSet, sSetN, sOwn, sOwnN, sAppend, sAppendN, sFreeze, sForget, sIf, sRet, sRetN, sNext, sPut, sDrop, sAug, sOn, sItem, sItemN, itemPut, sBreak, sCont, hide, Slot.hide, eVar, eC, e1, e2, eArgs, eAnd, eOr, eNot, eIf, eChain, eCall, eCut, partOf, aNil, aCons, asBl, bVal, bTruth, bAnd, bOr, bNot, bYes, truth, vAdd_int, vAdd_lst, vAdd_tup, vSub, vMul_int, vDiv_int, vMod_int, vPow18, vPow12, vPow11, vPow9, vPow6, vNeg, vLt, vLe, vGt, vGe, vEq, vNe, eqR_int, eqR_bl, eqR_str, vIsi, Val.isOb, vTup, vLst, vLen_lst, vLen_tup, vInt, vIs, vIsNot, vIx_lst, vIx_tup, vIx_dct, vListOf, vTupOf, vIpAdd, vMax2, vMax3, vMin2, Val.ty, Ty.sub, noLst_int, noLst_bl, noLst_str, noLst_non, noLst_tup, noLsts_nil, noLsts_cons, noLsts_ints, pName, pTup, pTupL, putAll, iSeq, itemsOf, iRange1, iRange2, DR.res, Res.ofOpt_some, Res.ofOpt_none, Res.bind_ok, Res.bind_exc, Res.bind_bad, Res.nx_ok, Res.flow_ok, Res.flow_bad, Flow.bind_next, Flow.bind_ret, Flow.bind_brk, Flow.bind_cont, Flow.bind_bad, Ok_next, Ok_ret, Ok_brk, Ok_cont, Ok_bind, Ok_cond, Ok_ite, Ok_ofOpt, flow_ite, bind_ite, nx_ite', flow_cond, bind_cond, cond_andV, cond_orV, cond_and, cond_or, atI_nat, atI_0, atI_1, atI_lit, startE, List.map_cons, List.map_nil, List.length_cons, List.length_nil, List.getElem?_cons_zero, List.getElem?_cons_succ, List.set_cons_zero, List.set_cons_succ, List.set_nil, List.replicate, List.append_nil, List.cons_append, List.nil_append, Nat.sub_self, Nat.reduceAdd, Nat.reduceSub, Nat.reduceLT, Nat.reduceLeDiff, Nat.reduceEqDiff, Int.reduceLE, Int.reduceLT, Int.reduceToNat, Int.reducePow, Int.reduceMul, Int.reduceAdd, Int.reduceSub, Int.reduceNeg, Int.cast_ofNat_Int, if_true, if_false, ↓reduceIte, reduceCtorEq, beq_self_eq_true, and_true, true_and, decide_eq_true_eq, decide_eq_false_iff_not, Bool.not_eq_true', Bool.not_eq_false', Bool.and_true, Bool.true_and, Bool.or_true, Bool.and_false, Bool.or_false, Bool.false_or, Bool.true_or, Bool.false_and, Bool.not_true, Bool.not_false, beq_iff_eq, forall_const, false_implies, Option.map_some, decide_true, decide_false, cond_true, cond_false, $ts,*])
open Lib
def shL (c : Circ) : Rows := (List.range (2 ^ (c.n + lats c))).map fun k => (flaws c).filter fun f => shownB c f k
theorem shL_len (c : Circ) : (shL c).length = 2 ^ (c.n + lats c) := by unfold shL; rw [List.length_map, List.length_range]
theorem shL_rows (c : Circ) (hg : c.Good) : ∀ r ∈ shL c, r.length ≤ 92 := by
  intro r hr
  obtain ⟨k, _, rfl⟩ := List.mem_map.mp hr
  have h1 := List.length_filter_le (fun f => shownB c f k) (flaws c)
  have h2 := flaws_len c
  have := hg.n6
  have := hg.c40
  show ((flaws c).filter fun f => shownB c f k).length ≤ 92
  omega
theorem sum_const (n : Nat) : ∀ R : Rows, (R.map fun _ => n).sum = R.length * n
  | [] => by simp
  | a :: l => by rw [List.map_cons, List.sum_cons, sum_const n l, List.length_cons, Nat.succ_mul]; omega
theorem tot_le {R : Rows} {n : Nat} (h : ∀ r ∈ R, r.length ≤ n) : tot R ≤ R.length * n := by
  unfold tot
  rw [← sum_const n R]
  exact sum_le_map _ _ R h
theorem cnt_ok (R : Rows) (hl : R.length ≤ 1000) (a0 a2 a3 a4 a5 a6 a7 : Slot) : e_make_tests_2 [a0, .sh (rowsV R), a2, a3, a4, a5, a6, a7] = .ok (cntV R) := by
  have e : cntV R = .lst (R.map fun r => Val.int (r.length : Nat)) := by unfold cntV; rw [List.map_map]; rfl
  rw [e]
  unfold e_make_tests_2
  refine eComp_all rowV (fun r => Val.int (r.length : Nat)) R rfl (by omega) fun r hr => ?_
  refine ⟨[a0, .sh (rowsV R), a2, a3, a4, a5, .sh (rowV r), a7], rfl, ?_⟩
  show Res.ok (Val.int ((r.map flawV).length : Nat)) = _
  rw [List.length_map]
theorem seen_ok (R : Rows) {r : List Fl} (k : Nat) (hk : R[k]? = some r) (hr : r.length ≤ 1000) (a0 a3 a4 a5 a6 a7 : Slot) : e_make_tests_3 [a0, .sh (rowsV R), .sh (.int (k : Nat)), a3, a4, a5, a6, a7] = .ok (seenV r) := by
  have hi : (e2 vIx (eVar 1) (eVar 2)) [a0, .sh (rowsV R), .sh (.int (k : Nat)), a3, a4, a5, a6, a7] = .ok (rowV r) := by
    show vIx (rowsV R) (.int (k : Nat)) = _
    show Res.ofOpt (atI (R.map rowV) (k : Int)) = _
    rw [atI_nat, List.getElem?_map, hk]
    rfl
  have e : eComp (iSeq (e2 vIx (eVar 1) (eVar 2))) [7] (pName 7) bYes (e2tup (eVar 7) (eC (.bl true))) [a0, .sh (rowsV R), .sh (.int (k : Nat)), a3, a4, a5, a6, a7] = .ok (.lst (r.map fun f => Val.tup [flawV f, .bl true])) := by
    refine eComp_all flawV (fun f => Val.tup [flawV f, .bl true]) r ?_ (by omega) fun f hf => ?_
    · unfold iSeq
      rw [hi]
      rfl
    · exact ⟨[a0, .sh (rowsV R), .sh (.int (k : Nat)), a3, a4, a5, a6, .sh (flawV f)], rfl, rfl⟩
  unfold e_make_tests_3 eDcT
  rw [e]
  show (pairsOfT SP _).bind _ = _
  rw [pairs_ok]
  rfl
theorem nxt_ok (R : Rows) (s : List Fl) (hs : s = chosen R) (hl : R.length ≤ 1000) (hr : ∀ r ∈ R, r.length ≤ 1000) (a0 a2 a3 a4 a6 a7 : Slot) : e_make_tests_5 [a0, .sh (rowsV R), a2, a3, a4, .sh (seenV s), a6, a7] = .ok (rowsV (nxt R)) := by
  subst hs
  have e : rowsV (nxt R) = .lst (R.map fun r => rowV (r.filter fun f => !decide (f ∈ chosen R))) := by unfold rowsV nxt; rw [List.map_map]; rfl
  rw [e]
  unfold e_make_tests_5
  refine eComp_all rowV _ R rfl (by omega) fun r hrr => ?_
  refine ⟨[a0, .sh (rowsV R), a2, a3, a4, .sh (seenV (chosen R)), .sh (rowV r), a7], rfl, ?_⟩
  unfold e_make_tests_4
  have hr' := hr r hrr
  refine eComp_ok flawV (fun f => !decide (f ∈ chosen R)) flawV r rfl (by omega) fun f hf => ?_
  refine ⟨[a0, .sh (rowsV R), a2, a3, a4, .sh (seenV (chosen R)), .sh (rowV r), .sh (flawV f)], rfl, ?_, fun _ => rfl⟩
  have h := notInT_ok f (chosen R)
  apply bVal_ok
  exact h
abbrev EM_ (c : Circ) (R : Rows) (acc : List Nat) (s2 s5 : Slot) : Env := [.sh c.v, .sh (rowsV R), s2, .oL (acc.map iv), .sh (cntV R), s5, .un, .un]
theorem make_tests_ok (c : Circ) (hg : c.Good) (h64 : 2 ^ (c.n + lats c) ≤ 64) : ∃ ts : List Nat, f_make_tests [c.v] = .ret (.lst (ts.map iv)) ∧ Run (shL c) ts := by
  suffices hh : ∃ y, f_make_tests [c.v] = .ret y ∧ ∃ ts : List Nat, y = .lst (ts.map iv) ∧ Run (shL c) ts by
    obtain ⟨y, h, ts, rfl, h2⟩ := hh; exact ⟨ts, h, h2⟩
  have b1 := hg.n6
  have b2 := hg.c40
  have h1 : f_check_size [c.v] = .ret .non := check_size_ok c (by omega) (by omega) h64
  have h2 : f_all_flaws [c.v] = .ret (.lst ((flaws c).map flawV)) := all_flaws_ok c (by omega) (by omega)
  have h3 : f_case_count [c.v] = .ret (.int (2 ^ (c.n + lats c) : Nat)) := case_count_ok c (by omega) (by omega)
  have h4 : ∀ f ∈ flaws c, ∀ n : Nat, n < 2 ^ (c.n + lats c) → f_shows [c.v, flawV f, .int (n : Nat)] = .ret (.bl (shownB c f n)) := fun f hf n hn => shows_ok c hg f.1 f.2 (flaws_mem c f hf) n hn
  have hp : 1 ≤ 2 ^ (c.n + lats c) := Nat.one_le_two_pow
  have hR0 : shL c ≠ [] := by
    intro h
    have := shL_len c
    rw [h] at this
    simp only [List.length_nil] at this
    omega
  refine defn_some rfl ?_
  unfold m_make_tests
  apply go_drop (x := .non)
  · dsimp! [h1]
  unfold m_make_tests_1
  apply go_own (xs := [])
  · rfl
  · rfl
  unfold m_make_tests_2 m_make_tests_c_F
  apply go_range (n := 2 ^ (c.n + lats c)) (I := fun i env => ∃ s2, env = [.sh c.v, .oL ((List.range i).map fun k => rowV ((flaws c).filter fun f => shownB c f k)), s2, .un, .un, .un, .un, .un])
  · dsimp! [h3]
  · omega
  · exact ⟨_, rfl⟩
  · rintro i hi env ⟨s2, rfl⟩
    refine ⟨_, rfl, ?_⟩
    apply go_last
    unfold m_make_tests_c_L
    have e : e_make_tests_1 [.sh c.v, .un, .sh (.int (i : Nat)), .un, .un, .un, .un, .un] = .ok (rowV ((flaws c).filter fun f => shownB c f i)) := by
      unfold e_make_tests_1
      refine eComp_ok flawV (fun f => shownB c f i) flawV (flaws c) ?_ (by rw [flaws_len]; omega) fun f hf => ?_
      · unfold iSeq
        have : (eCall f_all_flaws (aCons (eVar 0) aNil)) [.sh c.v, .un, .sh (.int (i : Nat)), .un, .un, .un, .un, .un] = .ok (.lst ((flaws c).map flawV)) := by dsimp! [h2]
        rw [this]
        rfl
      · refine ⟨[.sh c.v, .un, .sh (.int (i : Nat)), .un, .un, .un, .un, .sh (flawV f)], rfl, ?_, fun _ => rfl⟩
        have := h4 f hf i hi
        dsimp! [this]
    apply go_app
    · rfl
    · exact e
    · rw [List.length_map, List.length_range]; omega
    · apply go_end
      refine ⟨.sh (.int (i : Nat)), ?_⟩
      rw [List.range_succ, List.map_append]
      rfl
  rintro env ⟨s2, rfl⟩
  unfold m_make_tests_3
  apply go_freeze
  · rfl
  have eR : (List.range (2 ^ (c.n + lats c))).map (fun k => rowV ((flaws c).filter fun f => shownB c f k)) = (shL c).map rowV := by unfold shL; rw [List.map_map]; rfl
  rw [eR]
  unfold m_make_tests_4
  apply go_own (xs := [])
  · rfl
  · rfl
  unfold m_make_tests_5
  apply go_set (x := cntV (shL c))
  · exact cnt_ok (shL c) (by rw [shL_len]; omega) _ _ _ _ _ _ _
  · rfl
  unfold m_make_tests_6 m_make_tests_f_F
  apply go_while (P := fun e => ∃ acc s2 s5 R, e = EM_ c R acc s2 s5 ∧ Run (shL c) acc)
  · refine whileL_ok (fun k env => ∃ R acc s2 s5, env = EM_ c R acc s2 s5 ∧ tot R = k ∧ R.length = 2 ^ (c.n + lats c) ∧ (∀ r ∈ R, r.length ≤ 92) ∧ acc.length + k ≤ 10000 ∧ ∀ ts, Run R ts → Run (shL c) (acc ++ ts)) ?_ 100000 (tot (shL c)) _ ?_ ?_
    · rintro k env ⟨R, acc, s2, s5, rfl, hk, hl, hr, ha, hrun⟩
      have hR : R ≠ [] := by
        intro h
        rw [h] at hl
        simp only [List.length_nil] at hl
        omega
      have hm : (eArgs vMax (aCons (eVar 4) aNil)) (EM_ c R acc s2 s5) = .ok (.int (mx R : Nat)) := by
        have := max_cnt hR
        dsimp! [this]
      refine ⟨decide ((0 : Int) < (mx R : Nat)), ?_, fun hb => ?_, fun hb => ?_⟩
      · apply bVal_ok
        exact e2_ok hm rfl (vGt_i _ _)
      · have hb : (0 : Int) < (mx R : Nat) := of_decide_eq_true hb
        have hmx : mx R ≠ 0 := by omega
        obtain ⟨r, g1, g2, g3⟩ := ix_get hR
        apply go_last
        unfold m_make_tests_f_L
        apply go_assoc
        apply go_set (x := .int (ix R : Nat))
        · have hm' : (eArgs vMax (aCons (eVar 4) aNil)) (hide (EM_ c R acc s2 s5)) = .ok (.int (mx R : Nat)) := by
            have := max_cnt hR
            dsimp! [this]
          exact index_cnt hR rfl hm'
        · rfl
        unfold m_make_tests_f_1
        apply go_assoc
        apply go_appE (enc := iv) (L := acc) (ix R)
        · rfl
        · rfl
        · omega
        unfold m_make_tests_f_2
        apply go_assoc
        apply go_set (x := seenV r)
        · exact seen_ok R (ix R) g1 (by have := hr r (List.mem_of_getElem? g1); omega) _ _ _ _ _ _
        · rfl
        unfold m_make_tests_f_3
        apply go_assoc
        apply go_set (x := rowsV (nxt R))
        · exact nxt_ok R r g3.symm (by omega) (fun r hrr => by have := hr r hrr; omega) _ _ _ _ _ _
        · rfl
        unfold m_make_tests_f_4
        apply go_set (x := cntV (nxt R))
        · exact cnt_ok (nxt R) (by rw [nxt_len]; omega) _ _ _ _ _ _ _
        · rfl
        apply go_end
        have hlt := tot_lt hR hmx
        refine ⟨tot (nxt R), by omega, nxt R, acc ++ [ix R], .sh (.int (ix R : Nat)), .sh (seenV r), rfl, rfl, by rw [nxt_len]; exact hl, nxt_rows hr, ?_, fun ts ht => ?_⟩
        · rw [List.length_append, List.length_singleton]; omega
        · rw [List.append_assoc]
          exact hrun _ (Run.cons hmx ht)
      · have hb : ¬ (0 : Int) < (mx R : Nat) := of_decide_eq_false hb
        refine ⟨acc, s2, s5, R, rfl, ?_⟩
        have := hrun [] (Run.nil (by omega))
        rwa [List.append_nil] at this
    · have h := tot_le (shL_rows c hg)
      rw [shL_len] at h
      omega
    · have h := tot_le (shL_rows c hg)
      rw [shL_len] at h
      refine ⟨shL c, [], s2, .un, rfl, rfl, shL_len c, shL_rows c hg, ?_, fun ts ht => ht⟩
      simp only [List.length_nil]
      omega
  rintro env ⟨acc, s2, s5, R, rfl, hrun⟩
  unfold m_make_tests_7
  apply go_freeze
  · rfl
  unfold m_make_tests_8
  apply go_last
  exact go_ret rfl ⟨acc, rfl, hrun⟩
end K20
end Vm
end
noncomputable section
namespace Vm
namespace K20
open PySem
local macro_rules | `(tactic| dsimp! [$ts,*]) => `(tactic| repeat' first $[| exact $(ts.getElems.map (fun (x : Lean.TSyntax _) => (⟨x.raw[2]⟩ : Lean.TSyntax `term)))]* | (first | with_reducible apply e2_ok | with_reducible apply aCons_ok | with_reducible apply eArgs_go | with_reducible apply eCall_ok | with_reducible apply bVal_ok | with_reducible apply bTruth_ok | with_reducible apply bNot_ok | with_reducible apply bAnd_ok | with_reducible apply bOr_ok | with_reducible apply e1_ok | with_reducible apply eAnd_ok | with_reducible apply eOr_ok | with_reducible apply eNot_ok | exact vEq_i _ _ | exact vNe_i _ _ | exact vEq_s _ _ | exact vNe_s _ _ | exact vIn_2 _ _ _ | exact vIn_3 _ _ _ _ | exact vIn_5 _ _ _ _ _ _ | exact vMax2 _ _ | exact vMin2 _ _ | exact vMax3 _ _ _ | rfl))
local macro_rules | `(tactic| simp! [$ts,*]) => `(tactic| simp only [Ok_seq, OkM_seq, OkM_next, OkM_ret, OkM_exc, OkM_brk, OkM_cont, OkM_bind, OkM_cond, OkM_ite, RS.bind_ok, RS.bind_exc, RS.bind_bad, Res.flow_exc, Flow.bind_exc, RS.flow_ok, RS.flow_exc, RS.flow_bad, Res.rs_ok, Res.rs_exc, Res.rs_bad, RSflow_ite, RSbind_ite, RSflow_cond, RSbind_cond, rs_ite, rs_cond, mH, mN, mNil, mCons, mLst, mTup, m1, m2, mIf, mAnd, mOr, mNot, mFn, mArgs, bmP, bmV, bmT, bmAnd, bmOr, bmNot, sSetM, sDropM, sRetM, sIfM, sRaise, sSet, sSetN, sOwn, sOwnN, sAppend, sAppendN, sFreeze, sForget, sIf, sRet, sRetN, sNext, sPut, sDrop, sAug, sOn, sItem, sItemN, itemPut, sBreak, sCont, hide, Slot.hide, eVar, eC, e1, e2, eArgs, eAnd, eOr, eNot, eIf, eChain, eCall, eCut, partOf, aNil, aCons, asBl, bVal, bTruth, bAnd, bOr, bNot, bYes, truth, vAdd_int, vAdd_lst, vAdd_tup, vSub, vMul_int, vDiv_int, vMod_int, vPow18, vPow12, vPow11, vPow9, vPow6, vNeg, vLt, vLe, vGt, vGe, vEq, vNe, eqR_int, eqR_bl, eqR_str, vIsi, Val.isOb, vTup, vLst, vLen_lst, vLen_tup, vInt, vIs, vIsNot, vIx_lst, vIx_tup, vIx_dct, vListOf, vTupOf, vIpAdd, vMax2, vMax3, vMin2, Val.ty, Ty.sub, noLst_int, noLst_bl, noLst_str, noLst_non, noLst_tup, noLsts_nil, noLsts_cons, noLsts_ints, pName, pTup, pTupL, putAll, iSeq, itemsOf, iRange1, iRange2, DR.res, Res.ofOpt_some, Res.ofOpt_none, Res.bind_ok, Res.bind_exc, Res.bind_bad, Res.nx_ok, Res.flow_ok, Res.flow_bad, Flow.bind_next, Flow.bind_ret, Flow.bind_brk, Flow.bind_cont, Flow.bind_bad, Ok_next, Ok_ret, Ok_brk, Ok_cont, Ok_bind, Ok_cond, Ok_ite, Ok_ofOpt, flow_ite, bind_ite, nx_ite', flow_cond, bind_cond, cond_andV, cond_orV, cond_and, cond_or, atI_nat, atI_0, atI_1, atI_lit, startE, List.map_cons, List.map_nil, List.length_cons, List.length_nil, List.getElem?_cons_zero, List.getElem?_cons_succ, List.set_cons_zero, List.set_cons_succ, List.set_nil, List.replicate, List.append_nil, List.cons_append, List.nil_append, Nat.sub_self, Nat.reduceAdd, Nat.reduceSub, Nat.reduceLT, Nat.reduceLeDiff, Nat.reduceEqDiff, Int.reduceLE, Int.reduceLT, Int.reduceToNat, Int.reducePow, Int.reduceMul, Int.reduceAdd, Int.reduceSub, Int.reduceNeg, Int.cast_ofNat_Int, if_true, if_false, ↓reduceIte, reduceCtorEq, beq_self_eq_true, and_true, true_and, decide_eq_true_eq, decide_eq_false_iff_not, Bool.not_eq_true', Bool.not_eq_false', Bool.and_true, Bool.true_and, Bool.or_true, Bool.and_false, Bool.or_false, Bool.false_or, Bool.true_or, Bool.false_and, Bool.not_true, Bool.not_false, beq_iff_eq, forall_const, false_implies, Option.map_some, decide_true, decide_false, cond_true, cond_false, $ts,*])
open Lib
theorem exc_go {n : Nat} {m : ST} {a : EX} {k : ST} {xs : List Val} {q : Exn} (hm : m = sSeq (sDrop a) k) (h : a (startE n xs) = .exc q) (hl : xs.length = j) : defn j n m xs = .exc q := by
  refine defn_exc hl ⟨startE n xs, ?_⟩
  have : m (startE n xs) = .exc q (startE n xs) := by
    rw [hm]
    unfold sSeq sDrop
    rw [h]
    rfl
  rw [this]
section
variable (c : Circ) (hl : c.cells.length ≤ 1000) (hn : c.n ≤ 1000) (h : 64 < 2 ^ (c.n + lats c))
include hl hn h
theorem make_exc : f_make_tests [c.v] = .exc tooLarge := by
  have h1 : f_check_size [c.v] = .exc tooLarge := check_size_exc c hl hn h
  have e : (eCall f_check_size (aCons (eVar 0) aNil)) (startE 8 [c.v]) = .exc tooLarge := by simp! [h1]
  exact exc_go (m := m_make_tests) rfl e rfl
theorem hidden_exc : K20.f_hidden_flaws [c.v] = .exc tooLarge := by
  have h1 : f_check_size [c.v] = .exc tooLarge := check_size_exc c hl hn h
  have e : (eCall Lib.f_check_size (aCons (eVar 0) aNil)) (startE 2 [c.v]) = .exc tooLarge := by simp! [h1]
  exact exc_go (m := Lib.m_hidden_flaws) rfl e rfl
theorem first_exc (x : Val) : K20.f_first_case [c.v, x] = .exc tooLarge := by
  have h1 : f_check_size [c.v] = .exc tooLarge := check_size_exc c hl hn h
  have e : (eCall Lib.f_check_size (aCons (eVar 0) aNil)) (startE 3 [c.v, x]) = .exc tooLarge := by simp! [h1]
  exact exc_go (m := Lib.m_first_case) rfl e rfl
abbrev SU : Exn → ST := suE fun q => (sSetN 1 (e2 vAdd (eVar 1) (eArgs vInt (aCons (eIsE ti_TooLarge q) aNil))))
theorem try_go {a : EX} {v : Val} {k : Nat} (hk : k < 3) (h : a [.sh v, .sh (.int (k : Nat)), .un] = .exc tooLarge) : sTryAs 2 tb_GatesError (sDrop a) SU [.sh v, .sh (.int (k : Nat)), .un] = .next [.sh v, .sh (.int ((k + 1 : Nat))), .un] := by
  unfold sTryAs sDrop
  rw [h]
  rcases (by omega : k = 0 ∨ k = 1 ∨ k = 2) with rfl | rfl | rfl <;> rfl
theorem refuses_ok : f__law_refuses [c.v] = .ret (.bl true) := by
  have h1 := make_exc c hl hn h
  have h2 := hidden_exc c hl hn h
  have h3 := first_exc c hl hn h (.tup [.int 90, .int 3])
  refine defn_ret rfl ?_
  unfold m__law_refuses
  apply go_set (x := .int 0)
  · rfl
  · rfl
  have t1 : sTryAs 2 tb_GatesError m__law_refuses_b_T SU [.sh c.v, .sh (.int (0 : Nat)), .un] = .next [.sh c.v, .sh (.int (1 : Nat)), .un] := try_go c hl hn h (k := 0) (by omega) (by simp! [h1])
  have t2 : sTryAs 2 tb_GatesError m__law_refuses_c_T SU [.sh c.v, .sh (.int (1 : Nat)), .un] = .next [.sh c.v, .sh (.int (2 : Nat)), .un] := try_go c hl hn h (k := 1) (by omega) (by simp! [h2])
  have t3 : sTryAs 2 tb_GatesError m__law_refuses_d_T SU [.sh c.v, .sh (.int (2 : Nat)), .un] = .next [.sh c.v, .sh (.int (3 : Nat)), .un] := try_go c hl hn h (k := 2) (by omega) (by simp! [h3])
  unfold m__law_refuses_1
  have e0 : (startE 3 [c.v]).set 1 (.sh (.int 0)) = [.sh c.v, .sh (.int (0 : Nat)), .un] := rfl
  rw [e0, Ok_seq, t1, Ok_next]
  refine Then.mk ?_
  unfold m__law_refuses_2
  rw [Ok_seq, t2, Ok_next]
  refine Then.mk ?_
  unfold m__law_refuses_3
  rw [Ok_seq, t3, Ok_next]
  refine Then.mk ?_
  unfold m__law_refuses_4
  apply go_last
  exact go_ret (x := .bl true) rfl rfl
end
def rowAt (c : Circ) (k i : Nat) : List Fl := ((List.range i).flatMap fun n => [(n, false), (n, true)]).filter fun f => shownB c f k
theorem vNe_ans (as bs : List Bool) : vNe (.lst (as.map bv)) (.lst (bs.map bv)) = .ok (.bl (!decide (as = bs))) := by
  unfold vNe
  rw [eqR_bits]
  rfl
theorem lshown_ok (c : Circ) (hg : c.Good) (h64 : 2 ^ (c.n + lats c) ≤ 64) : f__law_shown [c.v] = .ret (rowsV (shL c)) := by
  have b1 := hg.n6
  have b2 := hg.c40
  have h7 : c.n + lats c ≤ 7 := by
    by_cases q : c.n + lats c ≤ 7
    · exact q
    · have : 2 ^ 8 ≤ 2 ^ (c.n + lats c) := Nat.pow_le_pow_right (by omega) (by omega)
      omega
  have ec : f__law_cases [c.v] = .ret (.int (2 ^ (c.n + lats c) : Nat)) := cases_ok c hg
  have ln : ∀ n : Nat, f__law_answers [c.v, .int (n : Nat), .int (-1), .int 0] = .ret (.lst ((ansL c (fun _ b => b) n).map bv)) := fun n => by
    have lb := lanswers_ok c hg h7 (-1) false n
    rw [ovI_neg] at lb
    exact lb
  have la : ∀ (n net : Nat) (b : Bool), f__law_answers [c.v, .int (n : Nat), .int (net : Nat), bv b] = .ret (.lst ((ansL c (stuckAt net b) n).map bv)) := fun n net b => by
    have la := lanswers_ok c hg h7 net b n
    rw [ovI_nat] at la
    exact la
  have cst : (c.n : Int) + ((c.cells.map Cell.v).length : Nat) = ((c.n + c.cells.length : Nat) : Int) := by rw [List.length_map]; omega
  have k0 : vIx c.v (.int 0) = .ok (.int c.n) := rfl
  have k1 : vIx c.v (.int 1) = .ok (.tup (c.cells.map Cell.v)) := rfl
  refine defn_ret rfl ?_
  unfold m__law_shown
  apply go_own (xs := [])
  · rfl
  · rfl
  unfold m__law_shown_1 m__law_shown_b_F
  apply go_range (n := 2 ^ (c.n + lats c)) (I := fun i env => ∃ s2 s3 s4 s5 s6, env = [.sh c.v, .oL ((List.range i).map fun k => rowV ((flaws c).filter fun f => shownB c f k)), s2, s3, s4, s5, s6])
  · dsimp! [ec]
  · omega
  · exact ⟨_, _, _, _, _, rfl⟩
  · rintro i hi env ⟨s2, s3, s4, s5, s6, rfl⟩
    refine ⟨_, rfl, ?_⟩
    apply go_last
    unfold m__law_shown_b_L
    apply go_assoc
    apply go_set (x := .lst ((ansL c (fun _ b => b) i).map bv))
    · have := ln i
      dsimp! [this]
    · rfl
    unfold m__law_shown_b_1
    apply go_assoc
    apply go_own (xs := [])
    · rfl
    · rfl
    unfold m__law_shown_b_2 m__law_shown_bc_F
    apply go_assoc
    apply go_range (n := c.n + c.cells.length) (I := fun j env => ∃ s5 s6, env = [.sh c.v, .oL ((List.range i).map fun k => rowV ((flaws c).filter fun f => shownB c f k)), .sh (.int (i : Nat)), .sh (.lst ((ansL c (fun _ b => b) i).map bv)), .oL ((rowAt c i j).map flawV), s5, s6])
    · refine e2_ok (x := .int c.n) (y := .int (c.cells.map Cell.v).length) rfl rfl ?_
      rw [← cst]
      rfl
    · omega
    · exact ⟨_, _, rfl⟩
    · rintro j hj env ⟨s5, s6, rfl⟩
      refine ⟨_, rfl, ?_⟩
      apply go_last
      unfold m__law_shown_bca_F
      have hlen : (rowAt c i j).length ≤ 100 := by
        have h1 := List.length_filter_le (fun f => shownB c f i) ((List.range j).flatMap fun n => [(n, false), (n, true)])
        rw [flat2_len _ _ fun _ => rfl] at h1
        show (((List.range j).flatMap fun n => [(n, false), (n, true)]).filter fun f => shownB c f i).length ≤ 100
        omega
      apply go_range (n := 2) (I := fun t env => ∃ s6, env = [.sh c.v, .oL ((List.range i).map fun k => rowV ((flaws c).filter fun f => shownB c f k)), .sh (.int (i : Nat)), .sh (.lst ((ansL c (fun _ b => b) i).map bv)), .oL ((rowAt c i j ++ ([(j, false), (j, true)].take t).filter fun f => shownB c f i).map flawV), .sh (.int (j : Nat)), s6])
      · rfl
      · omega
      · exact ⟨_, by simp only [List.take_zero, List.filter_nil, List.append_nil]; rfl⟩
      · rintro t ht env ⟨s6, rfl⟩
        refine ⟨_, rfl, ?_⟩
        obtain ⟨b, hb, htk⟩ : ∃ b : Bool, Val.int (t : Int) = bv b ∧ [(j, false), (j, true)].take (t + 1) = [(j, false), (j, true)].take t ++ [(j, b)] := by
          rcases (by omega : t = 0 ∨ t = 1) with rfl | rfl
          · exact ⟨false, rfl, rfl⟩
          · exact ⟨true, rfl, rfl⟩
        rw [hb, htk, List.filter_append]
        apply go_last
        unfold m__law_shown_bca_L
        have hl := la i j b
        have l2 := List.length_filter_le (fun f => shownB c f i) ([(j, false), (j, true)].take t)
        have l3 : ([(j, false), (j, true)].take t).length ≤ 2 := by rw [List.length_take]; exact Nat.min_le_right _ _
        apply go_if (c := shownB c (j, b) i)
        · apply bVal_ok
          exact e2_ok (by dsimp! [hl]) rfl (vNe_ans _ _)
        · intro hs
          apply go_appE (enc := flawV) (L := rowAt c i j ++ ([(j, false), (j, true)].take t).filter fun f => shownB c f i) (j, b)
          · rfl
          · rfl
          · rw [List.length_append]
            omega
          · apply go_end
            refine ⟨.sh (bv b), ?_⟩
            have e : [(j, b)].filter (fun f => shownB c f i) = [(j, b)] := by rw [List.filter_cons, if_pos hs, List.filter_nil]
            rw [e, ← List.append_assoc]
            rfl
        · intro hs
          apply go_next
          apply go_end
          refine ⟨.sh (bv b), ?_⟩
          have e : [(j, b)].filter (fun f => shownB c f i) = [] := by rw [List.filter_cons, if_neg (by rw [hs]; exact Bool.false_ne_true), List.filter_nil]
          rw [e, List.append_nil]
          rfl
      · rintro env ⟨s6, rfl⟩
        apply go_end
        refine ⟨.sh (.int (j : Nat)), s6, ?_⟩
        have e : rowAt c i (j + 1) = rowAt c i j ++ ([(j, false), (j, true)].take 2).filter fun f => shownB c f i := by
          unfold rowAt
          rw [List.range_succ, List.flatMap_append, List.filter_append]
          rfl
        rw [e]
    · rintro env ⟨s5, s6, rfl⟩
      unfold m__law_shown_b_3
      apply go_assoc
      apply go_freeze
      · rfl
      unfold m__law_shown_b_4
      apply go_app (x := rowV ((flaws c).filter fun f => shownB c f i))
      · rfl
      · rfl
      · rw [List.length_map, List.length_range]; omega
      apply go_end
      refine ⟨.sh (.int (i : Nat)), .sh (.lst ((ansL c (fun _ b => b) i).map bv)), .sh (rowV ((flaws c).filter fun f => shownB c f i)), s5, s6, ?_⟩
      rw [List.range_succ, List.map_append]
      rfl
  rintro env ⟨s2, s3, s4, s5, s6, rfl⟩
  unfold m__law_shown_2
  apply go_freeze
  · rfl
  unfold m__law_shown_3
  apply go_last
  refine go_ret (x := rowsV (shL c)) ?_ rfl
  have eR : (List.range (2 ^ (c.n + lats c))).map (fun k => rowV ((flaws c).filter fun f => shownB c f k)) = (shL c).map rowV := by unfold shL; rw [List.map_map]; rfl
  rw [eR]
  rfl
end K20
end Vm
end
noncomputable section
namespace Vm
namespace K20
open PySem
local macro_rules | `(tactic| dsimp! [$ts,*]) => `(tactic| repeat' first $[| exact $(ts.getElems.map (fun (x : Lean.TSyntax _) => (⟨x.raw[2]⟩ : Lean.TSyntax `term)))]* | (first | with_reducible apply e2_ok | with_reducible apply aCons_ok | with_reducible apply eArgs_go | with_reducible apply eCall_ok | with_reducible apply bVal_ok | with_reducible apply bTruth_ok | with_reducible apply bNot_ok | with_reducible apply bAnd_ok | with_reducible apply bOr_ok | with_reducible apply e1_ok | with_reducible apply eAnd_ok | with_reducible apply eOr_ok | with_reducible apply eNot_ok | exact vEq_i _ _ | exact vNe_i _ _ | exact vEq_s _ _ | exact vNe_s _ _ | exact vIn_2 _ _ _ | exact vIn_3 _ _ _ _ | exact vIn_5 _ _ _ _ _ _ | exact vMax2 _ _ | exact vMin2 _ _ | exact vMax3 _ _ _ | rfl))
local macro_rules | `(tactic| simp! [$ts,*]) => `(tactic| simp only [Ok_seq, OkM_seq, OkM_next, OkM_ret, OkM_exc, OkM_brk, OkM_cont, OkM_bind, OkM_cond, OkM_ite, RS.bind_ok, RS.bind_exc, RS.bind_bad, Res.flow_exc, Flow.bind_exc, RS.flow_ok, RS.flow_exc, RS.flow_bad, Res.rs_ok, Res.rs_exc, Res.rs_bad, RSflow_ite, RSbind_ite, RSflow_cond, RSbind_cond, rs_ite, rs_cond, mH, mN, mNil, mCons, mLst, mTup, m1, m2, mIf, mAnd, mOr, mNot, mFn, mArgs, bmP, bmV, bmT, bmAnd, bmOr, bmNot, sSetM, sDropM, sRetM, sIfM, sRaise, sSet, sSetN, sOwn, sOwnN, sAppend, sAppendN, sFreeze, sForget, sIf, sRet, sRetN, sNext, sPut, sDrop, sAug, sOn, sItem, sItemN, itemPut, sBreak, sCont, hide, Slot.hide, eVar, eC, e1, e2, eArgs, eAnd, eOr, eNot, eIf, eChain, eCall, eCut, partOf, aNil, aCons, asBl, bVal, bTruth, bAnd, bOr, bNot, bYes, truth, vAdd_int, vAdd_lst, vAdd_tup, vSub, vMul_int, vDiv_int, vMod_int, vPow18, vPow12, vPow11, vPow9, vPow6, vNeg, vLt, vLe, vGt, vGe, vEq, vNe, eqR_int, eqR_bl, eqR_str, vIsi, Val.isOb, vTup, vLst, vLen_lst, vLen_tup, vInt, vIs, vIsNot, vIx_lst, vIx_tup, vIx_dct, vListOf, vTupOf, vIpAdd, vMax2, vMax3, vMin2, Val.ty, Ty.sub, noLst_int, noLst_bl, noLst_str, noLst_non, noLst_tup, noLsts_nil, noLsts_cons, noLsts_ints, pName, pTup, pTupL, putAll, iSeq, itemsOf, iRange1, iRange2, DR.res, Res.ofOpt_some, Res.ofOpt_none, Res.bind_ok, Res.bind_exc, Res.bind_bad, Res.nx_ok, Res.flow_ok, Res.flow_bad, Flow.bind_next, Flow.bind_ret, Flow.bind_brk, Flow.bind_cont, Flow.bind_bad, Ok_next, Ok_ret, Ok_brk, Ok_cont, Ok_bind, Ok_cond, Ok_ite, Ok_ofOpt, flow_ite, bind_ite, nx_ite', flow_cond, bind_cond, cond_andV, cond_orV, cond_and, cond_or, atI_nat, atI_0, atI_1, atI_lit, startE, List.map_cons, List.map_nil, List.length_cons, List.length_nil, List.getElem?_cons_zero, List.getElem?_cons_succ, List.set_cons_zero, List.set_cons_succ, List.set_nil, List.replicate, List.append_nil, List.cons_append, List.nil_append, Nat.sub_self, Nat.reduceAdd, Nat.reduceSub, Nat.reduceLT, Nat.reduceLeDiff, Nat.reduceEqDiff, Int.reduceLE, Int.reduceLT, Int.reduceToNat, Int.reducePow, Int.reduceMul, Int.reduceAdd, Int.reduceSub, Int.reduceNeg, Int.cast_ofNat_Int, if_true, if_false, ↓reduceIte, reduceCtorEq, beq_self_eq_true, and_true, true_and, decide_eq_true_eq, decide_eq_false_iff_not, Bool.not_eq_true', Bool.not_eq_false', Bool.and_true, Bool.true_and, Bool.or_true, Bool.and_false, Bool.or_false, Bool.false_or, Bool.true_or, Bool.false_and, Bool.not_true, Bool.not_false, beq_iff_eq, forall_const, false_implies, Option.map_some, decide_true, decide_false, cond_true, cond_false, $ts,*])
open Lib
theorem lcnt_ok (R : Rows) (hl : R.length ≤ 1000) (a0 a1 a2 a3 a5 a6 a7 a8 a9 a10 a11 a12 a13 : Slot) : e_law_2 [a0, a1, a2, a3, .sh (rowsV R), a5, a6, a7, a8, a9, a10, a11, a12, a13] = .ok (cntV R) := by
  have e : cntV R = .lst (R.map fun r => Val.int (r.length : Nat)) := by unfold cntV; rw [List.map_map]; rfl
  rw [e]
  unfold e_law_2
  refine eComp_all rowV (fun r => Val.int (r.length : Nat)) R rfl (by omega) fun r hr => ?_
  refine ⟨[a0, a1, a2, a3, .sh (rowsV R), a5, a6, a7, a8, a9, a10, a11, .sh (rowV r), a13], rfl, ?_⟩
  show Res.ok (Val.int ((r.map flawV).length : Nat)) = _
  rw [List.length_map]
theorem lnxt_ok (R : Rows) (hl : R.length ≤ 1000) (hr : ∀ r ∈ R, r.length ≤ 1000) (a0 a1 a2 a3 a5 a6 a7 a8 a9 a11 a12 a13 : Slot) : e_law_5 [a0, a1, a2, a3, .sh (rowsV R), a5, a6, a7, a8, a9, .sh (rowV (chosen R)), a11, a12, a13] = .ok (rowsV (nxt R)) := by
  have e : rowsV (nxt R) = .lst (R.map fun r => rowV (r.filter fun f => !decide (f ∈ chosen R))) := by unfold rowsV nxt; rw [List.map_map]; rfl
  rw [e]
  unfold e_law_5
  refine eComp_all rowV _ R rfl (by omega) fun r hrr => ?_
  refine ⟨[a0, a1, a2, a3, .sh (rowsV R), a5, a6, a7, a8, a9, .sh (rowV (chosen R)), a11, .sh (rowV r), a13], rfl, ?_⟩
  unfold e_law_4
  have hr' := hr r hrr
  refine eComp_ok flawV (fun f => !decide (f ∈ chosen R)) flawV r rfl (by omega) fun f hf => ?_
  refine ⟨[a0, a1, a2, a3, .sh (rowsV R), a5, a6, a7, a8, a9, .sh (rowV (chosen R)), a11, .sh (rowV r), .sh (flawV f)], rfl, ?_, fun _ => rfl⟩
  have h := notInL_ok f (chosen R)
  apply bVal_ok
  exact h
theorem Run.mx0 {R : Rows} (h : Run R []) : mx R = 0 := by cases h with | nil h => exact h
theorem Run.step {R : Rows} {t : Nat} {ts : List Nat} (h : Run R (t :: ts)) : mx R ≠ 0 ∧ t = ix R ∧ Run (nxt R) ts := by cases h with | cons h1 h2 => exact ⟨h1, rfl, h2⟩
/-- from the call of make_tests on -/
theorem tail_ok (c : Circ) (hg : c.Good) (h64 : 2 ^ (c.n + lats c) ≤ 64) (a0 a1 a3 a4 a5 a6 a7 a8 a9 a10 a11 a12 a13 : Slot) {N B T : Env → Prop} : Ok (m_law_5 [a0, a1, .sh c.v, a3, a4, a5, a6, a7, a8, a9, a10, a11, a12, a13]) N (fun x => x = .bl true) B T := by
  obtain ⟨ts, h1, hrun⟩ := make_tests_ok c hg h64
  have h2 := lshown_ok c hg h64
  have isi : ∀ i : Int, f__law_is_integer [.int i] = .ret (.bl true) := fun i => isint_int i
  have hp : 1 ≤ 2 ^ (c.n + lats c) := Nat.one_le_two_pow
  unfold m_law_5
  apply go_set (x := .lst (ts.map iv))
  · dsimp! [h1]
  · rfl
  unfold m_law_6
  apply go_if (c := false)
  · rfl
  · intro h; cases h
  intro _
  apply go_next
  unfold m_law_7
  apply go_set (x := rowsV (shL c))
  · dsimp! [h2]
  · rfl
  unfold m_law_8 m_law_i_F
  apply go_for (xs := ts.map iv) (P := fun e => ∃ R s5 s9 s10, e = [a0, a1, .sh c.v, .sh (.lst (ts.map iv)), .sh (rowsV R), s5, a6, a7, a8, s9, s10, a11, a12, a13] ∧ R.length = 2 ^ (c.n + lats c) ∧ mx R = 0)
  · rfl
  · refine forL_ind iv (fun rest e => ∃ R s5 s9 s10, e = [a0, a1, .sh c.v, .sh (.lst (ts.map iv)), .sh (rowsV R), s5, a6, a7, a8, s9, s10, a11, a12, a13] ∧ R.length = 2 ^ (c.n + lats c) ∧ (∀ r ∈ R, r.length ≤ 92) ∧ Run R rest) ?_ ?_ ts _ ⟨shL c, a5, a9, a10, rfl, shL_len c, shL_rows c hg, hrun⟩
    · rintro t rest env ⟨R, s5, s9, s10, rfl, hl, hr, hR⟩
      obtain ⟨hm, rfl, hRn⟩ := hR.step
      have hne : R ≠ [] := by
        intro h
        rw [h] at hl
        simp only [List.length_nil] at hl
        omega
      obtain ⟨r, g1, g2, g3⟩ := ix_get hne
      have hix : ix R < R.length := (List.getElem?_eq_some_iff.mp g1).1
      have hmx := max_cnt hne
      refine ⟨[a0, a1, .sh c.v, .sh (.lst (ts.map iv)), .sh (rowsV R), .sh (iv (ix R)), a6, a7, a8, s9, s10, a11, a12, a13], rfl, ?_⟩
      apply go_last
      unfold m_law_i_L
      apply go_assoc
      apply go_set (x := iv (mx R))
      · have hc : e_law_2 (hide [a0, a1, .sh c.v, .sh (.lst (ts.map iv)), .sh (rowsV R), .sh (iv (ix R)), a6, a7, a8, s9, s10, a11, a12, a13]) = .ok (cntV R) := lcnt_ok R (by omega) _ _ _ _ _ _ _ _ _ _ _ _ _
        exact eArgs_go (aCons_ok hc rfl) hmx
      · rfl
      unfold m_law_i_1
      apply go_assoc
      apply go_if (c := false)
      · refine bOr_no ?_ (bOr_no ?_ (bOr_no ?_ ?_))
        · have := isi (ix R : Nat)
          have e : bTruth (eCall f__law_is_integer (aCons (eVar 5) aNil)) ([a0, a1, .sh c.v, .sh (.lst (ts.map iv)), .sh (rowsV R), .sh (iv (ix R)), a6, a7, a8, s9, s10, a11, a12, a13].set 9 (.sh (iv (mx R)))) = .ok true := by
            dsimp! [this]
          exact bNot_ok e
        · apply bVal_ok
          refine (e2_ok (x := iv (mx R)) (y := .int 0) rfl rfl (vEq_i _ _)).trans ?_
          rw [decide_eq_false (by omega)]
        · apply bVal_ok
          refine (e2_ok (x := iv (ix R)) (y := .int 0) rfl rfl (vLt_i _ _)).trans ?_
          rw [decide_eq_false (by omega)]
        · apply bVal_ok
          refine (e2_ok (x := iv (ix R)) (y := .int ((R.map rowV).length : Nat)) rfl rfl (vGe_i _ _)).trans ?_
          rw [decide_eq_false (by rw [List.length_map]; omega)]
      · intro h; cases h
      intro _
      apply go_next
      unfold m_law_i_2
      apply go_assoc
      apply go_if (c := false)
      · apply bVal_ok
        have hc : e_law_3 [a0, a1, .sh c.v, .sh (.lst (ts.map iv)), .sh (rowsV R), .sh (iv (ix R)), a6, a7, a8, .sh (iv (mx R)), s10, a11, a12, a13] = .ok (cntV R) := lcnt_ok R (by omega) _ _ _ _ _ _ _ _ _ _ _ _ _
        refine (e2_ok (x := iv (ix R)) (y := iv (ix R)) rfl (index_cnt hne hc rfl) (vNe_i _ _)).trans ?_
        rw [decide_eq_false (by simp)]
      · intro h; cases h
      intro _
      apply go_next
      unfold m_law_i_3
      apply go_assoc
      apply go_set (x := rowV (chosen R))
      · refine e2_ok (x := rowsV R) (y := iv (ix R)) rfl rfl ?_
        show Res.ofOpt (atI (R.map rowV) (ix R : Int)) = _
        rw [atI_nat, List.getElem?_map, g1, g3]
        rfl
      · rfl
      unfold m_law_i_4
      apply go_set (x := rowsV (nxt R))
      · exact lnxt_ok R (by omega) (fun r hrr => by have := hr r hrr; omega) _ _ _ _ _ _ _ _ _ _ _ _
      · rfl
      apply go_end
      exact ⟨nxt R, .sh (iv (ix R)), .sh (iv (mx R)), .sh (rowV (chosen R)), rfl, by rw [nxt_len]; exact hl, nxt_rows hr, hRn⟩
    · rintro env ⟨R, s5, s9, s10, rfl, hl, hr, hR⟩
      exact ⟨R, s5, s9, s10, rfl, hl, hR.mx0⟩
  rintro env ⟨R, s5, s9, s10, rfl, hl, hm⟩
  have hne : R ≠ [] := by
    intro h
    rw [h] at hl
    simp only [List.length_nil] at hl
    omega
  have hmx := max_cnt hne
  unfold m_law_9
  apply go_last
  refine go_ret (x := .bl true) ?_ rfl
  have hc : e_law_6 [a0, a1, .sh c.v, .sh (.lst (ts.map iv)), .sh (rowsV R), s5, a6, a7, a8, s9, s10, a11, a12, a13] = .ok (cntV R) := lcnt_ok R (by omega) _ _ _ _ _ _ _ _ _ _ _ _ _
  refine (e2_ok (x := iv (mx R)) (y := .int 0) (eArgs_go (aCons_ok hc rfl) hmx) rfl (vEq_i _ _)).trans ?_
  rw [decide_eq_true (by omega)]
def cBig (m : Nat) : Circ := ⟨6, (List.range m).map fun k => ⟨kLatch, [k], 6 + k⟩, [6, 0], List.range m⟩
def cOne (kd : Str) (a b : Nat) : Circ := ⟨6, [⟨kd, [a, 5 - a], 6⟩], [6, b], []⟩
def cTwo (kd : Str) (a b : Nat) : Circ := ⟨4, [⟨kLatch, [b], 4⟩, ⟨kLatch, [6 - a], 5⟩, ⟨kd, [a, 5], 6⟩], [6, b], [0, 1]⟩
def cTwo' (kd : Str) (a b : Nat) : Circ := ⟨4, [⟨kLatch, [b], 4⟩, ⟨kd, [a, 4], 5⟩, ⟨kLatch, [6 - a], 6⟩], [6, b], [0, 1]⟩
theorem two_kinds {kd : Str} (h : kd = kNand2 ∨ kd = kNor2) : kd ≠ kLatch ∧ kd ∈ plainKinds ∧ arity kd = 2 ∧ decide (kd = kLatch) = false := by
  rcases h with rfl | rfl <;> exact ⟨by decide, by decide, by decide, by decide⟩
theorem latch_ar : arity kLatch = 1 := by decide
theorem gOne {kd : Str} (h : kd = kNand2 ∨ kd = kNor2) {a b : Nat} (ha : a < 3) (hb : b < 6) : (cOne kd a b).Good ∧ lats (cOne kd a b) = 0 := by
  obtain ⟨h1, h2, h3, h4⟩ := two_kinds h
  have hl : latches (cOne kd a b).cells = [] := by
    show List.filter _ [_] = []
    rw [List.filter_cons, if_neg (by show ¬ decide (kd = kLatch) = true; rw [h4]; exact Bool.false_ne_true), List.filter_nil]
  refine ⟨⟨Nat.le_refl _, by show 1 ≤ 40; omega, .cons ⟨.inr h2, h3.symm, rfl, fun _ i hi => ?_, fun i hi => ?_, ?_⟩ (.nil _), by show 0 < 2; omega, by show 2 ≤ 6; omega, fun i hi => ?_, ?_, Nat.zero_le _⟩, ?_⟩
  · have hi : i ∈ [a, 5 - a] := hi
    show i < 6
    simp only [List.mem_cons, List.not_mem_nil, or_false] at hi
    omega
  · have hi : i ∈ [a, 5 - a] := hi
    show i < 6 + 1
    simp only [List.mem_cons, List.not_mem_nil, or_false] at hi
    omega
  · show [a, 5 - a].Nodup
    simp
    omega
  · have hi : i ∈ [6, b] := hi
    show i < 6 + 1
    simp only [List.mem_cons, List.not_mem_nil, or_false] at hi
    omega
  · rw [hl]; rfl
  · unfold lats; rw [hl]; rfl
theorem gTwo {kd : Str} (h : kd = kNand2 ∨ kd = kNor2) {a b : Nat} (ha : a < 3) (hb : b < 6) : (cTwo kd a b).Good ∧ lats (cTwo kd a b) = 2 := by
  obtain ⟨h1, h2, h3, h4⟩ := two_kinds h
  have hl : latches (cTwo kd a b).cells = [⟨kLatch, [b], 4⟩, ⟨kLatch, [6 - a], 5⟩] := by
    show List.filter _ [_, _, _] = _
    rw [List.filter_cons, if_pos (by rfl), List.filter_cons, if_pos (by rfl), List.filter_cons, if_neg (by show ¬ decide (kd = kLatch) = true; rw [h4]; exact Bool.false_ne_true), List.filter_nil]
  refine ⟨⟨by show 4 ≤ 6; omega, by show 3 ≤ 40; omega, .cons ⟨.inl rfl, latch_ar.symm, rfl, fun q => absurd rfl q, fun i hi => ?_, ?_⟩ (.cons ⟨.inl rfl, latch_ar.symm, rfl, fun q => absurd rfl q, fun i hi => ?_, ?_⟩ (.cons ⟨.inr h2, h3.symm, rfl, fun _ i hi => ?_, fun i hi => ?_, ?_⟩ (.nil _))), by show 0 < 2; omega, by show 2 ≤ 6; omega, fun i hi => ?_, ?_, by show 2 ≤ 4; omega⟩, ?_⟩
  · have hi : i ∈ [b] := hi
    show i < 4 + 3
    simp only [List.mem_cons, List.not_mem_nil, or_false] at hi
    omega
  · show [b].Nodup
    simp
  · have hi : i ∈ [6 - a] := hi
    show i < 4 + 3
    simp only [List.mem_cons, List.not_mem_nil, or_false] at hi
    omega
  · show [6 - a].Nodup
    simp
  · have hi : i ∈ [a, 5] := hi
    show i < 4 + 1 + 1
    simp only [List.mem_cons, List.not_mem_nil, or_false] at hi
    omega
  · have hi : i ∈ [a, 5] := hi
    show i < 4 + 3
    simp only [List.mem_cons, List.not_mem_nil, or_false] at hi
    omega
  · show [a, 5].Nodup
    simp
    omega
  · have hi : i ∈ [6, b] := hi
    show i < 4 + 3
    simp only [List.mem_cons, List.not_mem_nil, or_false] at hi
    omega
  · rw [hl]; rfl
  · unfold lats; rw [hl]; rfl
theorem gTwo' {kd : Str} (h : kd = kNand2 ∨ kd = kNor2) {a b : Nat} (ha : a < 3) (hb : b < 6) : (cTwo' kd a b).Good ∧ lats (cTwo' kd a b) = 2 := by
  obtain ⟨h1, h2, h3, h4⟩ := two_kinds h
  have hl : latches (cTwo' kd a b).cells = [⟨kLatch, [b], 4⟩, ⟨kLatch, [6 - a], 6⟩] := by
    show List.filter _ [_, _, _] = _
    rw [List.filter_cons, if_pos (by rfl), List.filter_cons, if_neg (by show ¬ decide (kd = kLatch) = true; rw [h4]; exact Bool.false_ne_true), List.filter_cons, if_pos (by rfl), List.filter_nil]
  refine ⟨⟨by show 4 ≤ 6; omega, by show 3 ≤ 40; omega, .cons ⟨.inl rfl, latch_ar.symm, rfl, fun q => absurd rfl q, fun i hi => ?_, ?_⟩ (.cons ⟨.inr h2, h3.symm, rfl, fun _ i hi => ?_, fun i hi => ?_, ?_⟩ (.cons ⟨.inl rfl, latch_ar.symm, rfl, fun q => absurd rfl q, fun i hi => ?_, ?_⟩ (.nil _))), by show 0 < 2; omega, by show 2 ≤ 6; omega, fun i hi => ?_, ?_, by show 2 ≤ 4; omega⟩, ?_⟩
  · have hi : i ∈ [b] := hi
    show i < 4 + 3
    simp only [List.mem_cons, List.not_mem_nil, or_false] at hi
    omega
  · show [b].Nodup
    simp
  · have hi : i ∈ [a, 4] := hi
    show i < 4 + 1
    simp only [List.mem_cons, List.not_mem_nil, or_false] at hi
    omega
  · have hi : i ∈ [a, 4] := hi
    show i < 4 + 3
    simp only [List.mem_cons, List.not_mem_nil, or_false] at hi
    omega
  · show [a, 4].Nodup
    simp
    omega
  · have hi : i ∈ [6 - a] := hi
    show i < 4 + 3
    simp only [List.mem_cons, List.not_mem_nil, or_false] at hi
    omega
  · show [6 - a].Nodup
    simp
  · have hi : i ∈ [6, b] := hi
    show i < 4 + 3
    simp only [List.mem_cons, List.not_mem_nil, or_false] at hi
    omega
  · rw [hl]; rfl
  · unfold lats; rw [hl]; rfl
theorem big_lats (m : Nat) : lats (cBig m) = m := by
  have hl : latches (cBig m).cells = (cBig m).cells := by
    unfold latches
    rw [List.filter_eq_self]
    intro x hx
    have hx : x ∈ (List.range m).map fun k => (⟨kLatch, [k], 6 + k⟩ : Cell) := hx
    obtain ⟨k, _, rfl⟩ := List.mem_map.mp hx
    rfl
  unfold lats
  rw [hl]
  show ((List.range m).map _).length = m
  rw [List.length_map, List.length_range]
theorem law_pure (ns : List Int) (hns : ns.length ≤ 63) : f_law [.lst (ns.map .int)] = .ret (.bl true) := by
  obtain ⟨c0, hc0, g0, h8, hpos, hn3, hl2⟩ := circuit4_ok ns hns 8 (by omega) (by omega)
  have hc0 : f__law_circuit [.lst (ns.map .int), .int 8] = .ret c0.v := hc0
  obtain ⟨c, hc, g, hor⟩ := bare_ok ns c0 g0
  have hc : f__law_bare [.lst (ns.map .int), c0.v] = .ret c.v := hc
  have cn : c.n ≤ 3 := by rcases hor with rfl | ⟨_, h, _⟩ <;> omega
  have cl : lats c ≤ 2 := by
    rcases hor with rfl | ⟨_, _, h⟩
    · have := g.lat; unfold lats; omega
    · unfold lats latches; rw [h]; exact Nat.zero_le _
  have p2 : 2 ^ (c.n + lats c) ≤ 2 ^ 5 := Nat.pow_le_pow_right (by omega) (by omega)
  obtain ⟨z, ez⟩ := cell_k ns 1
  have ez : f__law_cell [.lst (ns.map .int), .int 1] = .ret (.int z) := ez
  obtain ⟨ps, ep, hp⟩ := parts_k z [6, 3, 6, 4] (by
    intro n hn
    simp only [List.mem_cons, List.not_mem_nil, or_false] at hn
    rcases hn with rfl | rfl | rfl | rfl <;> omega) (by show 4 ≤ 100; omega)
  obtain ⟨p0, _, rfl, h0, hp⟩ := hp.cons
  obtain ⟨p1, _, rfl, h1, hp⟩ := hp.cons
  obtain ⟨q2, _, rfl, h2, hp⟩ := hp.cons
  obtain ⟨p3, _, rfl, h3, hp⟩ := hp.cons
  obtain rfl := hp.nil'
  simp only [List.map_cons, List.map_nil] at ep
  have ep : f__law_parts [.int z, .lst [.int 6, .int 3, .int 6, .int 4]] = .ret (.lst [.int p0, .int p1, .int q2, .int p3]) := ep
  obtain ⟨a, rfl⟩ : ∃ a : Nat, p1 = a := ⟨p1.toNat, by omega⟩
  obtain ⟨b, rfl⟩ : ∃ b : Nat, q2 = b := ⟨q2.toNat, by omega⟩
  obtain ⟨kd, hkd, hkv⟩ : ∃ kd : Str, (kd = kNand2 ∨ kd = kNor2) ∧ vIx (.lst [.str "nand2", .str "nor2", .str "nand2", .str "nor2"]) (.int p3) = .ok (.str kd) := by
    rcases (by omega : p3 = 0 ∨ p3 = 1 ∨ p3 = 2 ∨ p3 = 3) with rfl | rfl | rfl | rfl
    · exact ⟨kNand2, .inl rfl, rfl⟩
    · exact ⟨kNor2, .inr rfl, rfl⟩
    · exact ⟨kNand2, .inl rfl, rfl⟩
    · exact ⟨kNor2, .inr rfl, rfl⟩
  have ha : a < 3 := by omega
  have hb : b < 6 := by omega
  refine defn_ret rfl ?_
  unfold m_law
  apply go_set (x := .lst [.int p0, .int a, .int b, .int p3])
  · dsimp! [ez, ep]
  · rfl
  unfold m_law_1
  apply go_if (c := decide (p0 = 0))
  · apply bVal_ok
    exact e2_ok (x := .int p0) (y := .int 0) rfl rfl (vEq_i _ _)
  · intro _
    apply go_assoc
    have hcells : e_law_1 (hide ((startE 14 [.lst (ns.map .int)]).set 1 (.sh (.lst [.int p0, .int a, .int b, .int p3])))) = .ok (.lst ((cBig (1 + a)).cells.map Cell.v)) := by
      have e : (cBig (1 + a)).cells.map Cell.v = (List.range (1 + a)).map fun k : Nat => Cell.v ⟨kLatch, [k], 6 + k⟩ := by
        show ((List.range (1 + a)).map _).map Cell.v = _
        rw [List.map_map]
        rfl
      rw [e]
      unfold e_law_1
      refine eComp_all (fun k : Nat => Val.int (k : Int)) _ (List.range (1 + a)) (iRange_go (n := 1 + a) ?_ (by omega)) (by rw [List.length_range]; omega) fun k hk => ?_
      · refine e2_ok (x := .int 1) (y := .int a) rfl rfl ?_
        show Res.ok (Val.int (1 + (a : Int))) = _
        rw [show ((1 + a : Nat) : Int) = 1 + (a : Int) by omega]
      · refine ⟨[.sh (.lst (ns.map .int)), .sh (.lst [.int p0, .int a, .int b, .int p3]), .un, .un, .un, .un, .un, .un, .un, .un, .un, .sh (.int (k : Int)), .un, .un], rfl, ?_⟩
        show Res.ok (Val.tup [.str "latch", .tup [.int (k : Int)], .int (6 + (k : Int))]) = _
        have : (6 : Int) + (k : Int) = ((6 + k : Nat) : Int) := by omega
        rw [this]
        rfl
    apply go_set (x := .lst ((cBig (1 + a)).cells.map Cell.v))
    · exact hcells
    · rfl
    unfold m_law_b_1
    have hlen : (cBig (1 + a)).cells.length = 1 + a := by
      show ((List.range (1 + a)).map _).length = _
      rw [List.length_map, List.length_range]
    have hr : f__law_refuses [(cBig (1 + a)).v] = .ret (.bl true) := refuses_ok (cBig (1 + a)) (by omega) (by show 6 ≤ 1000; omega) (by
      rw [big_lats]
      show 64 < 2 ^ (6 + (1 + a))
      have : 2 ^ 7 ≤ 2 ^ (6 + (1 + a)) := Nat.pow_le_pow_right (by omega) (by omega)
      omega)
    refine go_ret (x := .bl true) (eCall_ok (xs := [(cBig (1 + a)).v]) (aCons_ok ?_ rfl) hr) rfl
    refine eArgs_go (xs := [.int 6, .tup ((cBig (1 + a)).cells.map Cell.v), .tup [.int 6, .int 0], .tup ((List.range (1 + a)).map iv)]) ?_ rfl
    refine aCons_ok rfl (aCons_ok rfl (aCons_ok rfl (aCons_ok ?_ rfl)))
    unfold eRange1
    have e : (e2 vAdd (eC (.int 1)) (e2 vIx (eVar 1) (eC (.int 1)))) (((startE 14 [.lst (ns.map .int)]).set 1 (.sh (.lst [.int p0, .int a, .int b, .int p3]))).set 6 (.sh (.lst ((cBig (1 + a)).cells.map Cell.v)))) = .ok (.int ((1 + a : Nat) : Int)) := by
      refine e2_ok (x := .int 1) (y := .int a) rfl rfl ?_
      show Res.ok (Val.int (1 + (a : Int))) = _
      rw [show ((1 + a : Nat) : Int) = 1 + (a : Int) by omega]
    rw [e]
    show rangeV .tup 0 ((1 + a : Nat) : Int) = _
    have sm := smallI_nat (n := 1 + a) (by omega)
    have sz' : smallI 0 = true := smallI_nat (n := 0) (by omega)
    have bg : big ((((1 + a : Nat) : Int) - 0).toNat ≤ 16777216) = true := big_iff.mpr (by omega)
    unfold rangeV
    rw [sm, sz', bg, Int.sub_zero, Int.toNat_natCast, range_nv]
    rfl
  intro hp0
  have hp0 : ¬ p0 = 0 := of_decide_eq_false hp0
  apply go_next
  unfold m_law_2
  apply go_set (x := c.v)
  · dsimp! [hc0, hc]
  · rfl
  unfold m_law_3
  apply go_if (c := decide (p0 = 1))
  · apply bVal_ok
    exact e2_ok (x := .int p0) (y := .int 1) rfl rfl (vEq_i _ _)
  · intro hq
    have hq : p0 = 1 := of_decide_eq_true hq
    subst hq
    apply go_assoc
    apply go_set (x := .str kd)
    · exact e2_ok (x := .lst [.str "nand2", .str "nor2", .str "nand2", .str "nor2"]) (y := .int p3) rfl rfl hkv
    · rfl
    unfold m_law_d_1
    apply go_set (x := (cOne kd a b).v)
    · rcases (by omega : a = 0 ∨ a = 1 ∨ a = 2) with rfl | rfl | rfl <;> rfl
    · rfl
    unfold m_law_4
    apply go_if (c := false)
    · rfl
    · intro h; cases h
    intro _
    apply go_next
    obtain ⟨gg, gl⟩ := gOne hkd ha hb
    exact tail_ok (cOne kd a b) gg (by rw [gl]; show 2 ^ 6 ≤ 64; omega) _ _ _ _ _ _ _ _ _ _ _ _ _
  intro hq
  have hq : ¬ p0 = 1 := of_decide_eq_false hq
  apply go_next
  unfold m_law_4
  apply go_if (c := decide (p0 = 2))
  · apply bVal_ok
    exact e2_ok (x := .int p0) (y := .int 2) rfl rfl (vEq_i _ _)
  · intro hq
    have hq : p0 = 2 := of_decide_eq_true hq
    subst hq
    apply go_assoc
    apply go_set (x := .str kd)
    · exact e2_ok (x := .lst [.str "nand2", .str "nor2", .str "nand2", .str "nor2"]) (y := .int p3) rfl rfl hkv
    · rfl
    unfold m_law_e_1
    apply go_assoc
    apply go_set (x := .lst ((cTwo kd a b).cells.map Cell.v))
    · rcases (by omega : a = 0 ∨ a = 1 ∨ a = 2) with rfl | rfl | rfl <;> rfl
    · rfl
    unfold m_law_e_2
    apply go_assoc
    apply go_if (c := decide ((1 : Int) < p3))
    · apply bVal_ok
      exact e2_ok (x := .int p3) (y := .int 1) rfl rfl (vGt_i _ _)
    · intro _
      apply go_set (x := .lst ((cTwo' kd a b).cells.map Cell.v))
      · rcases (by omega : a = 0 ∨ a = 1 ∨ a = 2) with rfl | rfl | rfl <;> rfl
      · rfl
      unfold m_law_e_3
      apply go_set (x := (cTwo' kd a b).v)
      · rfl
      · rfl
      obtain ⟨gg, gl⟩ := gTwo' hkd ha hb
      exact tail_ok (cTwo' kd a b) gg (by rw [gl]; show 2 ^ 6 ≤ 64; omega) _ _ _ _ _ _ _ _ _ _ _ _ _
    · intro _
      apply go_next
      unfold m_law_e_3
      apply go_set (x := (cTwo kd a b).v)
      · rfl
      · rfl
      obtain ⟨gg, gl⟩ := gTwo hkd ha hb
      exact tail_ok (cTwo kd a b) gg (by rw [gl]; show 2 ^ 6 ≤ 64; omega) _ _ _ _ _ _ _ _ _ _ _ _ _
  intro _
  apply go_next
  exact tail_ok c g (by omega) _ _ _ _ _ _ _ _ _ _ _ _ _
end K20
end Vm
end
theorem PySem.Challenge.cw_gatesread_k20_tests_show_all_flaws_holds : PySem.Challenge.rw_gatesread_k20_tests_show_all_flaws.Holds :=
  Vm.K20.gr_holds Vm.K20.law_pure
